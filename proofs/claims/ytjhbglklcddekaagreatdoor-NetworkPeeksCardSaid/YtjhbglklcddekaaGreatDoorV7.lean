/- Parts: D16, D17. -/
import Derived.Test.YtjhbglklcddekaaGreatDoorV6
set_option linter.all false
set_option maxRecDepth 100000
set_option maxHeartbeats 16000000
namespace Go.Proofs.YtjhbglklcddekaaGreatDoor
open Go.RowKit
section
inductive KeyK where
  | int (k : IntKind)
  | str
  | agg (ls : List Nat)
def keyOk (P : Program) (t : Nat) : KeyK → Bool
  | .int k => intOk P t k
  | .str => strOk P t
  | .agg ls => eqOk P t ls && aggOk P t ls.length
def mapOk (P : Program) (t k e : Nat) : Bool := match P.underlying t with
  | some (.map k' e') => k' == k && e' == e
  | _ => false
class TMap (P : Program) (t : Nat) (k e : outParam Nat) : Prop where
  ok : mapOk P t k e = true
class TKey (P : Program) (t : Nat) (kk : outParam KeyK) : Prop where
  ok : keyOk P t kk = true
def zeroD : List Value → List D → Bool
  | [], [] => true
  | u :: us, x :: xs => (match u, x with
    | .int k n, .int k' n' => decide (k = k') && decide (n = n')
    | .bool b, .bool b' => b == b'
    | .string t, .str t' => t.size == 0 && t'.size == 0
    | .slice none 0 0, .list _ [] => true
    | .pointer none, .raw (.pointer none) => true
    | .map none, .raw (.map none) => true
    | .nilFunc, .raw .nilFunc => true
    | _, _ => false) && zeroD us xs
  | _, _ => false
def zeroVOk (P : Program) (t : Nat) (v : V) : Bool := match P.info? t with
  | some i => (match i.zero with
    | some (.agg cs) => (match v with | .d (.agg ds) => zeroD cs.toList ds | _ => false)
    | some z => zeroCell z v
    | none => false)
  | none => false
class TZeroV (P : Program) (t : Nat) (v : outParam V) : Prop where
  ok : zeroVOk P t v = true
theorem zeroD_rep' {w : World} {M : Nat → Nat → Prop} : ∀ {us : List Value} {xs : List D}, zeroD us xs = true → RepA w M xs us
  | [], [], _ => rfl
  | u :: us, x :: xs, h => by
    simp only [zeroD, Bool.and_eq_true] at h
    obtain ⟨h1, h2⟩ := h
    refine ⟨u, us, rfl, ?_, ?_, zeroD_rep' h2⟩
    · split at h1 <;> first | rfl | cases h1
    · split at h1
      · simp only [Bool.and_eq_true, decide_eq_true_eq] at h1; obtain ⟨rfl, rfl⟩ := h1; rfl
      · simp only [beq_iff_eq] at h1; subst h1; rfl
      · simp only [Bool.and_eq_true, beq_iff_eq] at h1; rw [empty_str h1.1 h1.2]; rfl
      · exact ⟨none, 0, [], rfl, Nat.le_refl _, Nat.zero_le _, fun _ => rfl, rfl, Reads.nil _ _ _⟩
      · exact ⟨rfl, rfl⟩
      · exact ⟨rfl, rfl⟩
      · exact ⟨rfl, rfl⟩
      · cases h1
  | [], _ :: _, h => by simp [zeroD] at h
  | _ :: _, [], h => by simp [zeroD] at h
theorem zeroV_rep {P : Program} {t : Nat} {v : V} (h : TZeroV P t v) : ∃ i z, P.info? t = some i ∧ i.zero = some z ∧ ∀ {w : World} {M : Nat → Nat → Prop} {β : Nat → Hd} {H : List (Nat × Ob)}, RepV w M β H v z := by
  have := h.ok
  unfold zeroVOk at this
  cases hi : P.info? t with
  | none => rw [hi] at this; cases this
  | some i =>
    rw [hi] at this
    dsimp only at this
    cases hz : i.zero with
    | none => rw [hz] at this; cases this
    | some z =>
      rw [hz] at this
      refine ⟨i, z, rfl, hz, ?_⟩
      intro w M β H
      cases z
      case agg cs =>
        dsimp only at this
        split at this
        · exact ⟨cs.toList, by simp, zeroD_rep' this⟩
        · cases this
      all_goals exact zeroCell_rep this
inductive Comp : KeyK → D → D → Prop
  | int (k : IntKind) (a b : Int) : Comp (.int k) (.int k a) (.int k b)
  | str (a b : ByteArray) : Comp .str (.str a) (.str b)
  | agg {ls : List Nat} {ds es : List D} {p : Prop} (h : EqC ls ds es p) : Comp (.agg ls) (.agg ds) (.agg es)
def keyV : D → Value
  | .agg ds => .agg (ds.map leafV).toArray
  | x => leafV x
theorem EqC.iff {ls : List Nat} {ds es : List D} {p : Prop} (h : EqC ls ds es p) : p ↔ es.map leafV = ds.map leafV := by
  induction h with
  | nil => simp
  | bool _ ih => simp [ih, leafV, eq_comm]
  | @int k a b ls ds es p _ ih => simp [ih, leafV, eq_comm]
  | str _ ih => simp [ih, leafV, eq_comm]
theorem EqC.inj {ls : List Nat} {ds es : List D} {p : Prop} (h : EqC ls ds es p) : es.map leafV = ds.map leafV ↔ es = ds := by
  induction h with
  | nil => simp
  | bool _ ih => simp [ih, leafV]
  | @int k a b ls ds es p _ ih => simp [ih, leafV]
  | str _ ih => simp [ih, leafV]
theorem Comp.rep {kk : KeyK} {x y : D} (h : Comp kk x y) {w : World} {M : Nat → Nat → Prop} : (∀ u, RepD w M x u → u = keyV x) ∧ (∀ u, RepD w M y u → u = keyV y) := by
  cases h with
  | int => exact ⟨fun u h => h, fun u h => h⟩
  | str => exact ⟨fun u h => h, fun u h => h⟩
  | agg h =>
    constructor
    · rintro u ⟨vs, rfl, h1⟩; rw [h.rep.1 vs h1]; rfl
    · rintro u ⟨vs, rfl, h1⟩; rw [h.rep.2 vs h1]; rfl
theorem Comp.inj {kk : KeyK} {x y : D} (h : Comp kk x y) : keyV y = keyV x ↔ y = x := by
  cases h with
  | int => simp [keyV, leafV]
  | str => simp [keyV, leafV]
  | agg h => simp only [keyV, Value.agg.injEq, D.agg.injEq]; rw [← h.inj]; exact ⟨fun e => by simpa using congrArg Array.toList e, fun e => by rw [e]⟩
section
variable {P : Program}
theorem ba_iff (a b : ByteArray) : (a == b) = true ↔ a = b := by
  cases a; cases b; show ByteArray.beq _ _ = true ↔ _; unfold ByteArray.beq; simp
def Found (u : Value) (es : List MapEntry) (i : Nat) (r : Option (Nat × Value)) : Prop :=
  (r = none ∧ ∀ e ∈ es, e.key ≠ u) ∨ ∃ j e, r = some (i + j, e.val) ∧ es[j]? = some e ∧ e.key = u ∧ ∀ j' e', j' < j → es[j']? = some e' → e'.key ≠ u
theorem Found.cons {u : Value} {e : MapEntry} {es : List MapEntry} {i : Nat} {r : Option (Nat × Value)} (h : Found u es (i + 1) r) (hne : e.key ≠ u) : Found u (e :: es) i r := by
  rcases h with ⟨rfl, h⟩ | ⟨j, e', rfl, h1, h2, h3⟩
  · exact .inl ⟨rfl, fun x hx => (List.mem_cons.1 hx).elim (fun e => e ▸ hne) (h x)⟩
  · refine .inr ⟨j + 1, e', (by rw [show i + 1 + j = i + (j + 1) by omega]), h1, h2, fun j' x hj hx => ?_⟩
    cases j' with
    | zero => simp at hx; subst hx; exact hne
    | succ j' => exact h3 j' x (by omega) (by simpa using hx)
theorem findNow_run {d : TypeDesc} {u : Value} : ∀ (es : List MapEntry) (i : Nat), (∀ e ∈ es, ∃ b, (b = true ↔ e.key = u) ∧ Instr.sameNow d u e.key = some b) → ∃ r, Instr.findNow d u es i = some r ∧ Found u es i r
  | [], i, _ => ⟨none, rfl, .inl ⟨rfl, fun e h => by cases h⟩⟩
  | e :: es, i, h => by
    obtain ⟨b, h1, h2⟩ := h e List.mem_cons_self
    cases b with
    | true => exact ⟨some (i, e.val), by simp [Instr.findNow, h2], .inr ⟨0, e, rfl, rfl, h1.1 rfl, fun j' e' hj => by omega⟩⟩
    | false =>
      obtain ⟨r, h3, h4⟩ := findNow_run es (i + 1) (fun x hx => h x (List.mem_cons_of_mem _ hx))
      exact ⟨r, by simp [Instr.findNow, h2, h3], h4.cons (fun e => by have := h1.2 e; cases this)⟩
theorem findAsking_run {t : Nat} {u : Value} (w : World) : ∀ (es : List MapEntry) (i : Nat), (∀ e ∈ es, ∃ b, (b = true ↔ e.key = u) ∧ ∀ w, (Op.equal t u e.key).run P w = .ok b w) → ∃ r, (Instr.findAsking t u es i).run P w = .ok r w ∧ Found u es i r
  | [], i, _ => ⟨none, rfl, .inl ⟨rfl, fun e h => by cases h⟩⟩
  | e :: es, i, h => by
    obtain ⟨b, h1, h2⟩ := h e List.mem_cons_self
    cases b with
    | true => exact ⟨some (i, e.val), by unfold Instr.findAsking; rw [Sem.run_bind, h2 w]; rfl, .inr ⟨0, e, rfl, rfl, h1.1 rfl, fun j' e' hj => by omega⟩⟩
    | false =>
      obtain ⟨r, h3, h4⟩ := findAsking_run w es (i + 1) (fun x hx => h x (List.mem_cons_of_mem _ hx))
      exact ⟨r, by unfold Instr.findAsking; rw [Sem.run_bind, h2 w]; exact h3, h4.cons (fun e => by have := h1.2 e; cases this)⟩
theorem findKey_run {t : Nat} {kk : KeyK} [hk : TKey P t kk] {x : D} (w : World) (es : List MapEntry) (h : ∀ e ∈ es, ∃ y, Comp kk x y ∧ e.key = keyV y) : ∃ r, (Instr.findKey t (keyV x) es).run P w = .ok r w ∧ Found (keyV x) es 0 r := by
  have hok := hk.ok
  cases kk with
  | int k =>
    have hd := int_parts (P := P) (t := t) ⟨hok⟩
    obtain ⟨r, h4, h5⟩ := findNow_run (d := .int k) (u := keyV x) es 0 fun e he => by
      obtain ⟨y, c, hy⟩ := h e he
      rw [hy, c.inj]
      cases c with
      | int k a b => exact ⟨a == b, by rw [beq_iff_eq, D.int.injEq]; exact ⟨fun e => ⟨rfl, e.symm⟩, fun e => e.2.symm⟩, by show (if k = k then some (a == b) else none) = _; rw [if_pos rfl]⟩
    exact ⟨r, by simp [Instr.findKey, run_underlying hd, h4], h5⟩
  | str =>
    have hd := str_parts (P := P) (t := t) ⟨hok⟩
    obtain ⟨r, h4, h5⟩ := findNow_run (d := .string) (u := keyV x) es 0 fun e he => by
      obtain ⟨y, c, hy⟩ := h e he
      rw [hy, c.inj]
      cases c with
      | str a b => exact ⟨a == b, by rw [ba_iff, D.str.injEq]; exact eq_comm, rfl⟩
    exact ⟨r, by simp [Instr.findKey, run_underlying hd, h4], h5⟩
  | agg ls =>
    simp only [keyOk, Bool.and_eq_true] at hok
    obtain ⟨d, i, hd, hd', _, _⟩ := agg_parts (P := P) (t := t) ⟨hok.2⟩
    obtain ⟨r, h4, h5⟩ := findAsking_run (P := P) (t := t) (u := keyV x) w es 0 fun e he => by
      obtain ⟨y, c, hy⟩ := h e he
      rw [hy, c.inj]
      cases c with
      | agg c =>
        obtain ⟨b, h1, h2⟩ := eq_agg (hs := ⟨hok.2⟩) ⟨hok.1⟩ c
        refine ⟨b, ?_, h2⟩
        rw [h1, c.iff, c.inj]
        simp
    refine ⟨r, ?_, h5⟩
    cases es with
    | nil =>
      have : r = none := by
        rcases h5 with h5 | ⟨j, e, _, h5, _⟩
        · exact h5.1
        · simp at h5
      subst this
      simp [Instr.findKey, run_underlying hd, Instr.findNow]
    | cons e es =>
      have hn : Instr.findNow d (keyV x) (e :: es) 0 = none := by
        have : Instr.sameNow d (keyV x) e.key = none := by rcases hd' with ⟨fs, rfl⟩ | ⟨n, el, rfl⟩ <;> rfl
        simp [Instr.findNow, this]
      simp [Instr.findKey, run_underlying hd, hn, h4]
theorem leaves_key : ∀ (d D : Nat) (t : TypeId) (ls : List Nat), d ≤ D → leaves P d t = some ls → ∀ (i : TypeInfo), P.info? t = some i → i.size = ls.length → ∀ (ds es : List Go.Proofs.YtjhbglklcddekaaGreatDoor.D) (p : Prop), EqC ls ds es p → ∀ (pre post : List Value) (off : Nat), pre.length = off →
    ∃ a, (∀ w, (part t (pre ++ ds.map leafV ++ post).toArray off).run P w = .ok a w) ∧ (∀ em w, (Instr.checkKey em D t a).run P w = .ok () w) ∧ ((∃ fs, P.underlying t = some (.struct fs)) → a = .agg (ds.map leafV).toArray) := by
  intro d
  induction d with
  | zero => intro D t ls _ h; simp [leaves] at h
  | succ d ih =>
    intro D t ls hD h i hi hn ds es p hE pre post off ho
    obtain ⟨D, rfl⟩ : ∃ D', D = D' + 1 := ⟨D - 1, by omega⟩
    obtain ⟨hl1, hl2⟩ := hE.length
    have get : ∀ (v : Value) (l : List Value), l = [v] → (pre ++ l ++ post)[off]? = some v := fun v l h2 => by subst ho; subst h2; simp
    unfold leaves at h
    split at h
    · rename_i hu
      cases h
      obtain ⟨x, y, rfl, rfl, rfl⟩ := hE.inv0
      exact ⟨_, fun w => part_cell hu (by simp) (by simp) (get (.bool x) _ rfl) w, fun em w => by simp [Instr.checkKey, run_underlying hu], fun ⟨fs, hf⟩ => by rw [hu] at hf; cases hf⟩
    · rename_i k hu
      cases h
      obtain ⟨k', x, y, rfl, rfl, rfl⟩ := hE.inv1
      exact ⟨_, fun w => part_cell hu (by simp) (by simp) (get (.int k' x) _ rfl) w, fun em w => by simp [Instr.checkKey, run_underlying hu], fun ⟨fs, hf⟩ => by rw [hu] at hf; cases hf⟩
    · rename_i hu
      cases h
      obtain ⟨x, y, rfl, rfl, rfl⟩ := hE.inv2
      exact ⟨_, fun w => part_cell hu (by simp) (by simp) (get (.string x) _ rfl) w, fun em w => by simp [Instr.checkKey, run_underlying hu], fun ⟨fs, hf⟩ => by rw [hu] at hf; cases hf⟩
    · rename_i fs hu
      split at h
      · cases h
      · rename_i hst
        have fields : ∀ (em : Bool) (fl : List Field) (off : Nat) (ls : List Nat), leavesF P (leaves P d) off fl = some ls → ∀ (ds es : List Go.Proofs.YtjhbglklcddekaaGreatDoor.D) (p : Prop), EqC ls ds es p → ∀ (pre : List Value), pre.length = off →
            ∀ w, (forIn fl PUnit.unit fun f _ => if f.name ≠ "_" then (do Instr.checkKey em D f.type (← part f.type (pre ++ ds.map leafV).toArray f.offset); pure (ForInStep.yield PUnit.unit)) else pure (ForInStep.yield PUnit.unit) : Sem PUnit).run P w = .ok PUnit.unit w := by
          intro em fl
          induction fl with
          | nil => intros; rfl
          | cons f fl ih2 =>
            intro off ls h ds es p hE pre ho w
            simp only [leavesF] at h
            split at h
            · cases h
            · rename_i hf
              simp only [Bool.or_eq_true, beq_iff_eq, bne_iff_ne, ne_eq, not_or, Decidable.not_not] at hf
              split at h
              · rename_i l i' hl hi'
                split at h
                · rename_i hsz
                  simp only [beq_iff_eq] at hsz
                  obtain ⟨ls', h', rfl⟩ := Option.map_eq_some_iff.1 h
                  obtain ⟨d1, d2, e1, e2, p1, p2, rfl, rfl, h1, h2, rfl⟩ := hE.split l
                  obtain ⟨q1, q2⟩ := h1.length
                  obtain ⟨a, k1, k2, _⟩ := ih D f.type l (by omega) hl i' hi' hsz d1 e1 p1 h1 pre (d2.map leafV) off ho
                  have k5 := ih2 (off + l.length) ls' h' d2 e2 p2 h2 (pre ++ d1.map leafV) (by simp; omega) w
                  have e1' : (pre ++ (d1 ++ d2).map leafV) = pre ++ d1.map leafV ++ d2.map leafV := by simp
                  rw [e1']
                  simp only [List.forIn_cons, hf.1, ne_eq, not_false_eq_true, if_true, hf.2, Sem.run_bind, k1, k2, Result.andThen_ok, Sem.run_pure]
                  exact k5
                · cases h
              · cases h
        refine ⟨.agg (ds.map leafV).toArray, fun w => part_agg hu hi ho (by simp; omega) w, fun em w => ?_, fun _ => rfl⟩
        have := fields em fs.toList 0 ls h ds es p hE [] rfl w
        simp only [List.nil_append] at this
        simp only [Instr.checkKey, Sem.run_bind, run_underlying hu, Result.andThen_ok, ← Array.forIn_toList]
        rw [this]
        rfl
    · cases h
theorem checkKey_int (n : Nat) {t : Nat} {k k' : IntKind} {a : Int} (hu : P.underlying t = some (.int k)) (em : Bool) (w : World) : (Instr.checkKey em (n + 1) t (.int k' a)).run P w = .ok () w := by simp [Instr.checkKey, run_underlying hu]
theorem checkKey_str (n : Nat) {t : Nat} {a : ByteArray} (hu : P.underlying t = some .string) (em : Bool) (w : World) : (Instr.checkKey em (n + 1) t (.string a)).run P w = .ok () w := by simp [Instr.checkKey, run_underlying hu]
theorem Comp.check {t : Nat} {kk : KeyK} [hk : TKey P t kk] {x y : D} (h : Comp kk x y) (em : Bool) (w : World) : (Instr.checkKey em 10000 t (keyV x)).run P w = .ok () w := by
  have hok := hk.ok
  cases h with
  | int k a b => exact checkKey_int 9999 (int_parts ⟨hok⟩) em w
  | str a b => exact checkKey_str 9999 (str_parts ⟨hok⟩) em w
  | @agg ls ds es p h =>
    simp only [keyOk, Bool.and_eq_true] at hok
    have h1 := hok.1
    unfold eqOk at h1
    simp only [Bool.and_eq_true, beq_iff_eq, Bool.not_eq_true'] at h1
    obtain ⟨⟨h2, h3⟩, h4⟩ := h1
    obtain ⟨d, i, hu, hd, hi, hsz⟩ := agg_parts (P := P) (t := t) ⟨hok.2⟩
    obtain ⟨a, _, k3, k5⟩ := leaves_key 8 10000 t ls (by omega) h3 i hi hsz ds es p h [] [] 0 rfl
    have e := k5 (by
      split at h2
      · rename_i fs hu'; exact ⟨fs, hu'⟩
      · cases h2)
    subst e
    exact k3 em w
theorem map_parts {t k e : Nat} (h : TMap P t k e) : P.underlying t = some (.map k e) := by
  have := h.ok
  unfold mapOk at this
  split at this
  · rename_i k' e' hu
    simp only [Bool.and_eq_true, beq_iff_eq] at this
    obtain ⟨rfl, rfl⟩ := this
    exact hu
  · cases this
end
end
section
section
variable {P : Program}
theorem RepB.mem {w : World} {M : Nat → Nat → Prop} {ks : List D} {us : List Value} (h : RepB w M ks us) {u : Value} (hu : u ∈ us) : ∃ (i : Nat) (x : D), ks[i]? = some x ∧ us[i]? = some u ∧ RepD w M x u := by
  obtain ⟨i, hi, rfl⟩ := List.mem_iff_getElem.1 hu
  have hlen := h.length
  obtain ⟨v, h1, h2⟩ := h.get (i := i) (x := ks[i]'(by omega)) (by simp)
  have : v = us[i] := by rw [List.getElem?_eq_getElem hi] at h1; exact (Option.some.inj h1).symm
  exact ⟨i, _, List.getElem?_eq_getElem (by omega), List.getElem?_eq_getElem hi, this ▸ h2⟩
theorem keys_comp {kk : KeyK} {key : D} {ks : List D} {w : World} {M : Nat → Nat → Prop} {es : List MapEntry} (h1 : RepB w M ks (es.map (·.key))) (hk : ∀ y ∈ ks, Comp kk key y) : ∀ e ∈ es, ∃ y, Comp kk key y ∧ e.key = keyV y := fun e he => by
  obtain ⟨i, x, h2, _, h4⟩ := h1.mem (List.mem_map_of_mem (f := (·.key)) he)
  have hc := hk x (List.mem_of_getElem? h2)
  exact ⟨x, hc, hc.rep.2 _ h4⟩
theorem key_at {kk : KeyK} {key : D} {ks : List D} {w : World} {M : Nat → Nat → Prop} {es : List MapEntry} (h1 : RepB w M ks (es.map (·.key))) (hk : ∀ y ∈ ks, Comp kk key y) {j : Nat} {e : MapEntry} (he : es[j]? = some e) : ∃ y, ks[j]? = some y ∧ (e.key = keyV key ↔ y = key) := by
  have hlen := h1.length
  have hj : j < es.length := (List.getElem?_eq_some_iff.1 he).1
  simp only [List.length_map] at hlen
  obtain ⟨v, h2, h3⟩ := h1.get (i := j) (x := ks[j]'(by omega)) (by simp)
  rw [List.getElem?_map, he] at h2
  simp only [Option.map_some, Option.some.injEq] at h2
  have hc := hk _ (List.getElem_mem (l := ks) (n := j) (by omega))
  refine ⟨_, List.getElem?_eq_getElem (by omega), ?_⟩
  rw [h2, hc.rep.2 _ h3, hc.inj]
theorem run_getMap {w : World} {r c : Nat} {es : Array MapEntry} (h : w.heap[r]? = some (.map es c)) : (getObj r).run P w = .ok (.map es c) w := by simp [getObj, Sem.run, h]
theorem run_setMap {w : World} {r c : Nat} {es : Array MapEntry} (o : Obj) (h : w.heap[r]? = some (.map es c)) : (setObj r o).run P w = .ok () (w.putObj r o) := by simp [setObj, Sem.run, h, World.putObj]
theorem run_zeroValue' {t : TypeId} {i : TypeInfo} {z : Value} (hi : P.info? t = some i) (hz : i.zero = some z) (w : World) : (zeroValue t).run P w = .ok z w := by simp [zeroValue, typeInfo, hi, hz]
theorem found_hit {kk : KeyK} {key : D} {ks : List D} {w : World} {M : Nat → Nat → Prop} {es : List MapEntry} (h1 : RepB w M ks (es.map (·.key))) (hk : ∀ y ∈ ks, Comp kk key y) {i : Nat} (hi : ks[i]? = some key) (hf : ∀ j, j < i → ks[j]? ≠ some key) {r : Option (Nat × Value)} (h : Found (keyV key) es 0 r) :
    ∃ e, es[i]? = some e ∧ e.key = keyV key ∧ r = some (i, e.val) := by
  have hlen := h1.length
  simp only [List.length_map] at hlen
  have hil : i < ks.length := (List.getElem?_eq_some_iff.1 hi).1
  obtain ⟨ei, hei⟩ : ∃ e, es[i]? = some e := ⟨_, List.getElem?_eq_getElem (by omega)⟩
  obtain ⟨y, h2, h3⟩ := key_at h1 hk hei
  rw [hi] at h2
  cases h2
  have h4 := h3.2 rfl
  rcases h with ⟨_, h5⟩ | ⟨j, e, rfl, h5, h6, h7⟩
  · exact absurd h4 (h5 ei (List.mem_of_getElem? hei))
  · obtain ⟨z, h8, h9⟩ := key_at h1 hk h5
    have h10 := h9.1 h6
    subst h10
    have : i = j := by
      rcases Nat.lt_trichotomy i j with hij | hij | hij
      · exact absurd h4 (h7 i ei hij hei)
      · exact hij
      · exact absurd h8 (hf j hij)
    subst this
    rw [hei] at h5
    cases h5
    exact ⟨ei, hei, h4, by simp⟩
theorem found_miss {kk : KeyK} {key : D} {ks : List D} {w : World} {M : Nat → Nat → Prop} {es : List MapEntry} (h1 : RepB w M ks (es.map (·.key))) (hk : ∀ y ∈ ks, Comp kk key y) (hn : key ∉ ks) {r : Option (Nat × Value)} (h : Found (keyV key) es 0 r) : r = none := by
  rcases h with h | ⟨j, e, _, h5, h6, _⟩
  · exact h.1
  · obtain ⟨y, h8, h9⟩ := key_at h1 hk h5
    have := h9.1 h6
    subst this
    exact absurd (List.mem_of_getElem? h8) hn
theorem run_lookup_hit {t k e i r c : Nat} {kk : KeyK} {es : Array MapEntry} [ht : TMap P t k e] [hkk : TKey P k kk] {key y : D} {ks vs : List D} {w : World} {M : Nat → Nat → Prop} (h1 : RepB w M ks (es.toList.map (·.key))) (h2 : RepB w M vs (es.toList.map (·.val)))
    (hk : ∀ y ∈ ks, Comp kk key y) (hc : Comp kk key key) (hi : ks[i]? = some key) (hf : ∀ j, j < i → ks[j]? ≠ some key) (hv : vs[i]? = some y) (ok : Bool) :
    ∃ u, RepD w M y u ∧ ∀ w', w'.heap[r]? = some (.map es c) → (Instr.lookup t (.map (some r)) (keyV key) ok).run P w' = .ok (if ok then .tuple #[u, .bool true] else u) w' := by
  obtain ⟨u, h3, h4⟩ := h2.get hv
  refine ⟨u, h4, fun w' hw' => ?_⟩
  obtain ⟨q, h5, h6⟩ := findKey_run (P := P) (t := k) (x := key) w' es.toList (keys_comp h1 hk)
  obtain ⟨en, h7, h8, rfl⟩ := found_hit h1 hk hi hf h6
  rw [List.getElem?_map, h7] at h3
  simp only [Option.map_some, Option.some.injEq] at h3
  subst h3
  simp only [Instr.lookup, Sem.run_bind, run_underlying (map_parts ht), Result.andThen_ok, run_getMap hw', Sem.run_pure, hc.check, h5]
theorem run_lookup_miss {t k e r c : Nat} {kk : KeyK} {es : Array MapEntry} [ht : TMap P t k e] [hkk : TKey P k kk] {key : D} {ks : List D} {w : World} {M : Nat → Nat → Prop} (h1 : RepB w M ks (es.toList.map (·.key)))
    (hk : ∀ y ∈ ks, Comp kk key y) (hc : Comp kk key key) (hn : key ∉ ks) {i : TypeInfo} {z : Value} (hi : P.info? e = some i) (hz : i.zero = some z) (ok : Bool) :
    ∀ w', w'.heap[r]? = some (.map es c) → (Instr.lookup t (.map (some r)) (keyV key) ok).run P w' = .ok (if ok then .tuple #[z, .bool false] else z) w' := by
  intro w' hw'
  obtain ⟨q, h5, h6⟩ := findKey_run (P := P) (t := k) (x := key) w' es.toList (keys_comp h1 hk)
  have := found_miss h1 hk hn h6
  subst this
  simp only [Instr.lookup, Sem.run_bind, run_underlying (map_parts ht), Result.andThen_ok, run_getMap hw', Sem.run_pure, hc.check, h5, run_zeroValue' hi hz]
end
section
variable {E : Set} {Q : Exit → Sd → Prop} {ops : Array Oper} {draw : Bool} {rest : Todo} {way : Way3} {ty : TypeId} {pos : String} {af : Array Edge} {gd : Option (Nat × Bool)} {dst : Option Tmp}
variable {env : List (Nat × V)} {H : List (Nat × Ob)} {gl : List (Nat × List D)} {d : Nat}
def pairV : Bool → V → Bool → V
  | true, v, b => .tup [v, .d (.bool b)]
  | false, v, _ => v
theorem q_hit {S : Sd} {t k e n i : Nat} {kk : KeyK} {x y : Operand} {key z : D} {ks vs : List D} {ok : Bool} [ht : TMap E.P t k e] [hkk : TKey E.P k kk] (hx : S.ev x = some (.map n)) (hox : okOp x = true) (hl : look n S.H = some (.map ks vs)) (hy : S.ev y = some (.d key)) (hoy : okOp y = true)
    (hk : ∀ y ∈ ks, Comp kk key y) (hc : Comp kk key key) (hi : ks[i]? = some key) (hf : ∀ j, j < i → ks[j]? ≠ some key) (hv : vs[i]? = some z) : Quiet E S ⟨dst, .lookup t x y ok, ty, pos, af, gd⟩ (pairV ok (.d z) true) := Quiet.mk fun β a w h => by
  obtain ⟨r, h1, h2⟩ := h.ev hx hox
  obtain ⟨r', es, c, h3, h4, h5, h6, hbn⟩ := h.obs n _ hl
  rw [h1] at h3
  cases h3
  have hkey : a.eval y = keyV key := hc.rep.1 _ (h.ev hy hoy)
  obtain ⟨u, h7, h8⟩ := run_lookup_hit (P := E.P) (t := t) (r := r) (c := c) h5 h6 hk hc hi hf hv ok
  refine ⟨if ok then .tuple #[u, .bool true] else u, fun w' g => ?_, ?_⟩
  · have := h8 w' (grows_heap g h4)
    simp only [execOp, h2, hkey, Sem.run_bind, this, Result.andThen_ok, Sem.run_pure]
  · cases ok
    · exact h7
    · exact ⟨[u, .bool true], rfl, u, _, rfl, h7, _, _, rfl, rfl, rfl⟩
theorem q_miss {S : Sd} {t k e n : Nat} {kk : KeyK} {x y : Operand} {key : D} {ks vs : List D} {ok : Bool} {zv : V} [ht : TMap E.P t k e] [hkk : TKey E.P k kk] [hz : TZeroV E.P e zv] (hx : S.ev x = some (.map n)) (hox : okOp x = true) (hl : look n S.H = some (.map ks vs)) (hy : S.ev y = some (.d key)) (hoy : okOp y = true)
    (hk : ∀ y ∈ ks, Comp kk key y) (hc : Comp kk key key) (hn : key ∉ ks) : Quiet E S ⟨dst, .lookup t x y ok, ty, pos, af, gd⟩ (pairV ok zv false) := Quiet.mk fun β a w h => by
  obtain ⟨r, h1, h2⟩ := h.ev hx hox
  obtain ⟨r', es, c, h3, h4, h5, h6, hbn⟩ := h.obs n _ hl
  rw [h1] at h3
  cases h3
  have hkey : a.eval y = keyV key := hc.rep.1 _ (h.ev hy hoy)
  obtain ⟨i, z, hi, hzi, hzr⟩ := zeroV_rep hz
  have h8 := run_lookup_miss (P := E.P) (t := t) (r := r) (c := c) h5 hk hc hn hi hzi ok
  refine ⟨if ok then .tuple #[z, .bool false] else z, fun w' g => ?_, ?_⟩
  · have := h8 w' (grows_heap g h4)
    simp only [execOp, h2, hkey, Sem.run_bind, this, Result.andThen_ok, Sem.run_pure]
  · cases ok
    · exact hzr
    · exact ⟨[z, .bool false], rfl, z, _, rfl, hzr, _, _, rfl, rfl, rfl⟩
theorem q_hit_d {S : Sd} {t k e i : Nat} {kk : KeyK} {x y : Operand} {key z : D} {ks vs : List D} {ok : Bool} [ht : TMap E.P t k e] [hkk : TKey E.P k kk] (hx : S.ev x = some (.d (.map ks vs))) (hox : okOp x = true) (hy : S.ev y = some (.d key)) (hoy : okOp y = true)
    (hk : ∀ y ∈ ks, Comp kk key y) (hc : Comp kk key key) (hi : ks[i]? = some key) (hf : ∀ j, j < i → ks[j]? ≠ some key) (hv : vs[i]? = some z) : Quiet E S ⟨dst, .lookup t x y ok, ty, pos, af, gd⟩ (pairV ok (.d z) true) := Quiet.mk fun β a w h => by
  obtain ⟨r, es, c, h3, h4, _, h5, h6⟩ := h.ev hx hox
  have hkey : a.eval y = keyV key := hc.rep.1 _ (h.ev hy hoy)
  obtain ⟨u, h7, h8⟩ := run_lookup_hit (P := E.P) (t := t) (r := r) (c := c) h5 h6 hk hc hi hf hv ok
  refine ⟨if ok then .tuple #[u, .bool true] else u, fun w' g => ?_, ?_⟩
  · have := h8 w' (grows_heap g h4)
    simp only [execOp, h3, hkey, Sem.run_bind, this, Result.andThen_ok, Sem.run_pure]
  · cases ok
    · exact h7
    · exact ⟨[u, .bool true], rfl, u, _, rfl, h7, _, _, rfl, rfl, rfl⟩
theorem q_miss_d {S : Sd} {t k e : Nat} {kk : KeyK} {x y : Operand} {key : D} {ks vs : List D} {ok : Bool} {zv : V} [ht : TMap E.P t k e] [hkk : TKey E.P k kk] [hz : TZeroV E.P e zv] (hx : S.ev x = some (.d (.map ks vs))) (hox : okOp x = true) (hy : S.ev y = some (.d key)) (hoy : okOp y = true)
    (hk : ∀ y ∈ ks, Comp kk key y) (hc : Comp kk key key) (hn : key ∉ ks) : Quiet E S ⟨dst, .lookup t x y ok, ty, pos, af, gd⟩ (pairV ok zv false) := Quiet.mk fun β a w h => by
  obtain ⟨r, es, c, h3, h4, _, h5, h6⟩ := h.ev hx hox
  have hkey : a.eval y = keyV key := hc.rep.1 _ (h.ev hy hoy)
  obtain ⟨i, z, hi, hzi, hzr⟩ := zeroV_rep hz
  have h8 := run_lookup_miss (P := E.P) (t := t) (r := r) (c := c) h5 hk hc hn hi hzi ok
  refine ⟨if ok then .tuple #[z, .bool false] else z, fun w' g => ?_, ?_⟩
  · have := h8 w' (grows_heap g h4)
    simp only [execOp, h3, hkey, Sem.run_bind, this, Result.andThen_ok, Sem.run_pure]
  · cases ok
    · exact hzr
    · exact ⟨[z, .bool false], rfl, z, _, rfl, hzr, _, _, rfl, rfl, rfl⟩
theorem first_at {ks : List D} {key : D} (h : key ∈ ks) : ∃ i : Nat, ks[i]? = some key ∧ ∀ j : Nat, j < i → ks[j]? ≠ some key := by
  obtain ⟨i, hi, h1⟩ := List.mem_iff_getElem.1 h
  obtain ⟨m, h2, h3⟩ := least (p := fun i : Nat => ks[i]? = some key) ⟨i, by rw [List.getElem?_eq_getElem hi, h1]⟩
  exact ⟨m, h2, fun j hj hk => by have := h3 j hk; omega⟩
theorem s_lookup {t k e n : Nat} {kk : KeyK} {x y : Operand} {key : D} {ks vs : List D} {ok : Bool} {zv : V} [ht : TMap E.P t k e] [hkk : TKey E.P k kk] [hz : TZeroV E.P e zv] (hx : Sd.ev ⟨env, H, gl⟩ x = some (.map n)) (hox : okOp x = true) (hl : look n H = some (.map ks vs)) (hy : Sd.ev ⟨env, H, gl⟩ y = some (.d key)) (hoy : okOp y = true)
    (hc : Comp kk key key) (hd : d < E.C.nt) (hg : Sd.gd ⟨env, H, gl⟩ ops ⟨some d, .lookup t x y ok, ty, pos, af, gd⟩ = some true) (hw : way.known = false) (hk : ∀ y ∈ ks, Comp kk key y) (hlen : vs.length = ks.length)
    (h1 : ∀ (i : Nat) z, ks[i]? = some key → vs[i]? = some z → (∀ j : Nat, j < i → ks[j]? ≠ some key) → TR E draw ops Q rest ⟨(d, pairV ok (.d z) true) :: env, H, gl⟩)
    (h2 : key ∉ ks → TR E draw ops Q rest ⟨(d, pairV ok zv false) :: env, H, gl⟩) : TR E draw ops Q (.step ⟨some d, .lookup t x y ok, ty, pos, af, gd⟩ way rest) ⟨env, H, gl⟩ := by
  by_cases hm : key ∈ ks
  · obtain ⟨i, hi, hf⟩ := first_at hm
    have hlt : i < ks.length := (List.getElem?_eq_some_iff.1 hi).1
    have hv : vs[i]? = some (vs[i]'(by omega)) := List.getElem?_eq_getElem (by omega)
    exact tr_quiet (q_hit (kk := kk) hx hox hl hy hoy hk hc hi hf hv) rfl hd hg rfl hw (h1 i _ hi hv hf)
  · exact tr_quiet (q_miss (kk := kk) hx hox hl hy hoy hk hc hm) rfl hd hg rfl hw (h2 hm)
theorem s_lookup_d {t k e : Nat} {kk : KeyK} {x y : Operand} {key : D} {ks vs : List D} {ok : Bool} {zv : V} [ht : TMap E.P t k e] [hkk : TKey E.P k kk] [hz : TZeroV E.P e zv] (hx : Sd.ev ⟨env, H, gl⟩ x = some (.d (.map ks vs))) (hox : okOp x = true) (hy : Sd.ev ⟨env, H, gl⟩ y = some (.d key)) (hoy : okOp y = true)
    (hc : Comp kk key key) (hd : d < E.C.nt) (hg : Sd.gd ⟨env, H, gl⟩ ops ⟨some d, .lookup t x y ok, ty, pos, af, gd⟩ = some true) (hw : way.known = false) (hk : ∀ y ∈ ks, Comp kk key y) (hlen : vs.length = ks.length)
    (h1 : ∀ (i : Nat) z, ks[i]? = some key → vs[i]? = some z → (∀ j : Nat, j < i → ks[j]? ≠ some key) → TR E draw ops Q rest ⟨(d, pairV ok (.d z) true) :: env, H, gl⟩)
    (h2 : key ∉ ks → TR E draw ops Q rest ⟨(d, pairV ok zv false) :: env, H, gl⟩) : TR E draw ops Q (.step ⟨some d, .lookup t x y ok, ty, pos, af, gd⟩ way rest) ⟨env, H, gl⟩ := by
  by_cases hm : key ∈ ks
  · obtain ⟨i, hi, hf⟩ := first_at hm
    have hlt : i < ks.length := (List.getElem?_eq_some_iff.1 hi).1
    have hv : vs[i]? = some (vs[i]'(by omega)) := List.getElem?_eq_getElem (by omega)
    exact tr_quiet (q_hit_d (kk := kk) hx hox hy hoy hk hc hi hf hv) rfl hd hg rfl hw (h1 i _ hi hv hf)
  · exact tr_quiet (q_miss_d (kk := kk) hx hox hy hoy hk hc hm) rfl hd hg rfl hw (h2 hm)
theorem StB.setMap {C : Ctx} {S : Sd} {β : Nat → Hd} {a : Act} {w : World} (h : StB C β S a w) {n r : Nat} {ob ob' : Ob} (hl : look n S.H = some ob) (hob : ob'.mut = fun _ => True) (hom : ∀ o, ob.mut o) (hnr : ∀ e sz sh xs k, ob' ≠ .row e sz sh xs k) (hb' : (β n).v = .map (some r)) {o o' : Obj} (ho : w.heap[r]? = some o)
    (hrep : RepO (w.putObj r o') (Mut C.M0 β ((n, ob') :: S.H)) β ((n, ob') :: S.H) (β n) ob' ∨ (Keeps w (Mut C.M0 β S.H) (w.putObj r o') (Mut C.M0 β ((n, ob') :: S.H)) → RepO (w.putObj r o') (Mut C.M0 β ((n, ob') :: S.H)) β ((n, ob') :: S.H) (β n) ob')) (hd : ob.deep = false := by rfl) (hd' : ob'.deep = false := by rfl) : StB C β { S with H := (n, ob') :: S.H } a (w.putObj r o') := by
  have hbn : hb (β n).v = some r := by rw [hb']; rfl
  have hH : ∀ m e sz sh xs k, look m ((n, ob') :: S.H) = some (.row e sz sh xs k) → ∃ sh' xs', look m S.H = some (.row e sz sh' xs' k) := fun m e sz sh xs k hm => by
    rw [look_set] at hm
    split at hm
    · cases hm; exact absurd rfl (hnr _ _ _ _ _)
    · exact ⟨sh, xs, hm⟩
  refine h.turn hl (fun _ _ => rfl) rfl rfl rfl (by simp [World.putObj]) (fun k _ hk => World.putObj_heap_other (fun e => hk (by rw [hbn, e]))) (fun b h => .inl h) (fun b' o' y h4 h5 _ => absurd (hom o') h5) (fun _ _ _ _ _ => hom _)
    (fun k t x v _ => RepV.keep k (fun _ => rfl) hH x v) (fun _ => rfl) (fun k m cs vs _ _ => RepL.keep k (fun _ => rfl) hH _ vs) (fun k => ?_) hd hd'
  rcases hrep with h | h
  · exact h
  · exact h k
theorem map_set {es : List MapEntry} {i : Nat} {e : MapEntry} (he : es[i]? = some e) {u : Value} : (es.modify i fun x => { x with key := e.key, val := u }).map (·.key) = es.map (·.key) ∧ (es.modify i fun x => { x with key := e.key, val := u }).map (·.val) = (es.map (·.val)).set i u := by
  have hi := (List.getElem?_eq_some_iff.1 he).1
  have e1 := (List.getElem?_eq_some_iff.1 he).2
  constructor
  · apply List.ext_getElem?
    intro j
    rw [List.getElem?_map, List.getElem?_map, List.getElem?_modify]
    split
    · rename_i hij; subst hij; rw [he]; rfl
    · simp
  · apply List.ext_getElem?
    intro j
    rw [List.getElem?_map, List.getElem?_modify, List.getElem?_set]
    split
    · rename_i hij; subst hij; rw [he, if_pos (by simpa using hi)]; rfl
    · simp
theorem StB.newMap {C : Ctx} {S : Sd} {β : Nat → Hd} {a : Act} {w : World} (h : StB C β S a w) {n : Nat} (hn : S.fresh n = true) : StB C (upd β n (.map (some w.heap.size))) { S with H := (n, .map [] []) :: S.H } a (w.alloc (.map #[] 0)) := by
  refine h.newObj hn (.map (some w.heap.size)) (Grows.alloc w _) (fun b hb' => ?_) (.map [] []) fun k => ⟨_, #[], 0, rfl, heap_alloc_new w _, rfl, rfl, fun e h => by cases h⟩
  simp only [hb, Option.some.injEq] at hb'
  omega
theorem g_makeMap {S : Sd} {n t : Nat} (hn : S.fresh n = true) : Grow E S ⟨some d, .makeMap t none, ty, pos, af, gd⟩ { S with H := (n, .map [] []) :: S.H } (.map n) := Grow.mk fun β a w h => by
  refine ⟨.map (some w.heap.size), _, _, ?_, Grows.alloc w _, h.newMap hn, ⟨w.heap.size, upd_v _ _ _, rfl⟩⟩
  simp [execOp, run_makeMap]
theorem s_makeMap (n : Nat) {t : Nat} (hn : Sd.fresh ⟨env, H, gl⟩ n = true) (hd : d < E.C.nt) (hg : Sd.gd ⟨env, H, gl⟩ ops ⟨some d, .makeMap t none, ty, pos, af, gd⟩ = some true) (hw : way.loud = true)
    (h : TR E draw ops Q rest ⟨(d, .map n) :: env, (n, .map [] []) :: H, gl⟩) : TR E draw ops Q (.step ⟨some d, .makeMap t none, ty, pos, af, gd⟩ way rest) ⟨env, H, gl⟩ := tr_grow (g_makeMap hn) rfl hd hg rfl hw h
end
end
end Go.Proofs.YtjhbglklcddekaaGreatDoor
