/- Parts: D2, Base3, D3, D4. -/
import Derived.Test.YtjhbglklcddekaaGreatDoorV1
import Derived.Maps.AppendAt
set_option linter.all false
set_option maxRecDepth 100000
set_option maxHeartbeats 16000000
namespace Go.Proofs.YtjhbglklcddekaaGreatDoor
open Go.RowKit
section
inductive V where
  | d (x : D)
  | own (n k : Nat)
  | nils (sz : Nat)
  | zc
  | ptr (n off : Nat)
  | sl (n off l c : Nat)
  | el (n k i off : Nat)
  | suf (n k p : Nat)
  | win (n k p m : Nat)
  | map (n : Nat)
  | clo (fn : Fn) (first caps : List V)
  | tup (vs : List V)
  | agg (vs : List V)
  | ifc (t : TypeId) (v : V)
  | bsl (n off l : Nat)
inductive Ob where
  | box (cs : List V)
  | row (e sz : Nat) (sh : Bool) (xs : List D) (k : Nat)
  | map (ks vs : List D)
  | imap (cs : List V)
  | smap (e sz : Nat) (f : ByteArray → List D) (x : Option (ByteArray × V))
  | hbox (e sz : Nat) (xs : List D) (i : Nat) (cs : List V)
  | sbox (cs : List V)
def look {α : Type} (t : Nat) : List (Nat × α) → Option α
  | [] => none
  | (s, v) :: r => bif Nat.beq s t then some v else look t r
theorem beq_false {s t : Nat} : Nat.beq s t = false ↔ s ≠ t := by
  constructor
  · rintro h rfl
    simp at h
  · intro h
    cases hb : Nat.beq s t with
    | false => rfl
    | true => exact absurd (Nat.eq_of_beq_eq_true hb) h
theorem look_cons {α : Type} (t s : Nat) (v : α) (r : List (Nat × α)) : look t ((s, v) :: r) = if s = t then some v else look t r := by
  show (bif Nat.beq s t then some v else look t r) = _
  by_cases h : s = t
  · subst h; simp
  · simp only [beq_false.2 h, cond_false, if_neg h]
theorem look_mem {α : Type} {t : Nat} : ∀ {l : List (Nat × α)} {v : α}, look t l = some v → (t, v) ∈ l
  | [], _, h => by simp [look] at h
  | (s, u) :: r, v, h => by
    rw [look_cons] at h
    split at h
    · rename_i e; subst e; cases h; exact List.mem_cons_self
    · exact List.mem_cons_of_mem _ (look_mem h)
def hb : Value → Option Nat
  | .pointer (some a) => some a.block
  | .slice (some a) _ _ => some a.block
  | .map (some r) => some r
  | _ => none
structure Hd where
  v : Value
  bs : List Nat
def noHd : Nat → Hd := fun _ => ⟨.nilFunc, []⟩
def Ob.deep : Ob → Bool
  | .smap _ _ _ _ => true
  | .hbox _ _ _ _ _ => true
  | _ => false
def own (h : Hd) (ob : Ob) (b : Nat) : Prop := hb h.v = some b ∨ (ob.deep = true ∧ b ∈ h.bs)
theorem own_flat {h : Hd} {ob : Ob} {b : Nat} (hd : ob.deep = false) : own h ob b ↔ hb h.v = some b := by
  unfold own
  rw [hd]
  simp
def blk (h : Hd) (ob : Ob) : List Nat := (hb h.v).toList ++ (if ob.deep then h.bs else [])
theorem mem_blk {h : Hd} {ob : Ob} {b : Nat} : b ∈ blk h ob ↔ own h ob b := by
  unfold blk own
  cases hd : ob.deep <;> simp
def Ob.cells : Ob → List V
  | .box cs => cs
  | .imap cs => cs
  | .hbox _ _ _ _ cs => cs
  | .sbox cs => cs
  | .smap _ _ _ (some (_, v)) => [v]
  | _ => []
def Ob.mut : Ob → Nat → Prop
  | .box _, _ => True
  | .row _ sz sh xs _, o => sh = false ∨ xs.length * sz ≤ o
  | .map _ _, _ => True
  | .imap _, _ => True
  | .smap _ _ _ _, _ => True
  | .hbox _ _ _ _ _, _ => True
  | .sbox _, _ => True
theorem Ob.mut_some (ob : Ob) : ∃ o, ob.mut o := by
  cases ob with
  | row e sz sh xs k => exact ⟨xs.length * sz, .inr (Nat.le_refl _)⟩
  | _ => exact ⟨0, trivial⟩
structure Sd where
  env : List (Nat × V)
  H : List (Nat × Ob)
  gl : List (Nat × List D)
structure Ctx where
  nt : Nat
  E : List Nat
  w0 : World
  M0 : Nat → Nat → Prop
  N : List Nat
  b0 : Nat → Value
  g : Nat → Value
  sys : List (Nat × Obj)
def Ctx.fn (nt : Nat) (w : World) (M : Nat → Nat → Prop) : Ctx := ⟨nt, [], w, M, [], fun _ => .nilFunc, fun _ => .nilFunc, []⟩
def slotV (C : Ctx) (a : Act) (t : Nat) : Option Value := bif Nat.blt t 100000 then a.tmps[t]? else some (C.g t)
def markOf (D : Nat) : Deferred := { target := .collected D, args := #[] }
def Mut (M0 : Nat → Nat → Prop) (β : Nat → Hd) (H : List (Nat × Ob)) (b o : Nat) : Prop :=
  M0 b o ∨ ∃ n ob, look n H = some ob ∧ own (β n) ob b ∧ ob.mut o
mutual
def RepV (w : World) (M : Nat → Nat → Prop) (β : Nat → Hd) (H : List (Nat × Ob)) : V → Value → Prop
  | .d x, v => RepD w M x v
  | .own n k, v => ∀ e sz sh xs, look n H = some (.row e sz sh xs k) → v = (β n).v
  | .nils _, v => v = .slice none 0 0
  | .zc, v => ∃ a, v = .slice a 0 0
  | .ptr n off, v => ∃ b, (β n).v = .pointer (some ⟨b, 0, none⟩) ∧ v = .pointer (some ⟨b, off, none⟩)
  | .sl n off l c, v => ∃ b, (β n).v = .pointer (some ⟨b, 0, none⟩) ∧ v = .slice (some ⟨b, off, none⟩) l c
  | .el n k i off, v => ∀ e sz sh xs, look n H = some (.row e sz sh xs k) → ∃ b l c, (β n).v = .slice (some ⟨b, 0, none⟩) l c ∧ v = .pointer (some ⟨b, i * sz + off, none⟩)
  | .suf n k p, v => ∀ e sz sh xs, look n H = some (.row e sz sh xs k) → ∃ a l c a', (β n).v = .slice a l c ∧ p ≤ l ∧ v = .slice a' (l - p) (c - p) ∧ (c ≠ p → a' = a.map (·.add (p * sz))) ∧ (a' = none ↔ a = none)
  | .win n k p m, v => ∀ e sz sh xs, look n H = some (.row e sz sh xs k) → ∃ a l c a' c', (β n).v = .slice a l c ∧ p + m ≤ l ∧ v = .slice a' m c' ∧ m ≤ c' ∧ (m ≠ 0 → a' = a.map (·.add (p * sz)))
  | .map n, v => ∃ r, (β n).v = .map (some r) ∧ v = .map (some r)
  | .clo fn f c, v => ∃ fs gs : List Value, v = .func fn fs.toArray gs.toArray ∧ RepL w M β H f fs ∧ RepL w M β H c gs
  | .tup vs, v => ∃ us : List Value, v = .tuple us.toArray ∧ RepL w M β H vs us
  | .agg vs, v => ∃ us : List Value, v = .agg us.toArray ∧ (∀ u ∈ us, u.oneCell' = true) ∧ RepL w M β H vs us
  | .ifc t x, v => ∃ u : Value, v = .iface t u ∧ RepV w M β H x u
  | .bsl n off l, v => ∃ b c, (β n).v = .pointer (some ⟨b, 0, none⟩) ∧ v = .slice (some ⟨b, off, none⟩) l c ∧ l ≤ c ∧ c ≤ maxLen
def RepL (w : World) (M : Nat → Nat → Prop) (β : Nat → Hd) (H : List (Nat × Ob)) : List V → List Value → Prop
  | [], vs => vs = []
  | x :: xs, vs => ∃ (v : Value) (r : List Value), vs = v :: r ∧ RepV w M β H x v ∧ RepL w M β H xs r
end
structure IMap (es : List MapEntry) (c : Nat) (vs : List Value) : Prop where
  here : ∀ e ∈ es, ∃ i : Nat, e.key = .int .i64 i ∧ vs[i]? = some e.val
  all : ∀ (i : Nat) x, vs[i]? = some x → x ≠ .slice none 0 0 → ∃ e ∈ es, e.key = .int .i64 i
  one : es.Pairwise fun x y => x.key ≠ y.key
  born : ∀ e ∈ es, e.born < c
structure SMap (w : World) (M : Nat → Nat → Prop) (e sz : Nat) (f : ByteArray → List D) (x : Option ByteArray) (es : List MapEntry) (c : Nat) (r : Nat) (bs : List Nat) : Prop where
  key : ∀ en ∈ es, ∃ s, en.key = .string s
  one : es.Pairwise fun x y => x.key ≠ y.key
  born : ∀ en ∈ es, en.born < c
  here : ∀ en ∈ es, ∀ s, en.key = .string s → x ≠ some s → ∃ ys, w.ownsRow 0 e sz en.val (f s).length ys ∧ RepE w M sz (f s) ys
  none : ∀ s, x ≠ some s → (∀ en ∈ es, en.key ≠ .string s) → f s = []
  blk : ∀ b, b ∈ bs ↔ ∃ en ∈ es, ∃ s, en.key = .string s ∧ x ≠ some s ∧ hb en.val = some b
  apart : ∀ en ∈ es, ∀ en' ∈ es, ∀ s s' b, en.key = .string s → en'.key = .string s' → x ≠ some s → x ≠ some s' → s ≠ s' → hb en.val = some b → hb en'.val ≠ some b
  map : r ∉ bs
def Lies (es : List MapEntry) (s : ByteArray) (u : Value) : Prop := (∃ en ∈ es, en.key = .string s ∧ en.val = u) ∨ ((∀ en ∈ es, en.key ≠ .string s) ∧ u = .slice none 0 0)
def RepO (w : World) (M : Nat → Nat → Prop) (β : Nat → Hd) (H : List (Nat × Ob)) (h : Hd) : Ob → Prop
  | .box cs => ∃ (b : Nat) (vs : List Value) (t : TypeId), h.v = .pointer (some ⟨b, 0, none⟩) ∧ w.heap[b]? = some (.cells vs.toArray t (0, 0)) ∧ RepL w M β H cs vs
  | .row e sz _ xs _ => ∃ ys : List Value, w.ownsRow 0 e sz h.v xs.length ys ∧ RepE w M sz xs ys
  | .map ks us => ∃ (r : Nat) (es : Array MapEntry) (clock : Nat), h.v = .map (some r) ∧ w.heap[r]? = some (.map es clock) ∧ RepB w M ks (es.toList.map (·.key)) ∧ RepB w M us (es.toList.map (·.val)) ∧ ∀ e ∈ es.toList, e.born < clock
  | .imap cs => ∃ (r : Nat) (es : Array MapEntry) (clock : Nat) (vs : List Value), h.v = .map (some r) ∧ w.heap[r]? = some (.map es clock) ∧ RepL w M β H cs vs ∧ IMap es.toList clock vs
  | .smap e sz f x => ∃ (r : Nat) (es : Array MapEntry) (clock : Nat), h.v = .map (some r) ∧ w.heap[r]? = some (.map es clock) ∧ SMap w M e sz f (x.map (·.1)) es.toList clock r h.bs ∧ ∀ s v, x = some (s, v) → ∃ u, RepV w M β H v u ∧ Lies es.toList s u
  | .hbox e sz xs i cs => ∃ (b : Nat) (vs : List Value) (u : Value) (t : TypeId) (ys : List Value), h.v = .pointer (some ⟨b, 0, none⟩) ∧ w.heap[b]? = some (.cells (vs.set i u).toArray t (0, 0)) ∧ w.ownsRow 0 e sz u xs.length ys ∧ RepE w M sz xs ys ∧ (∀ q, q ∈ h.bs ↔ hb u = some q) ∧ b ∉ h.bs ∧ i < vs.length ∧ RepL w M β H cs vs
  | .sbox cs => ∃ (b : Nat) (vs us : List Value) (t : TypeId), h.v = .pointer (some ⟨b, 0, none⟩) ∧ w.heap[b]? = some (.cells (vs ++ us).toArray t (0, 0)) ∧ RepL w M β H cs vs
structure Frm (E : List Nat) (w w' : World) : Prop where
  os : w'.os = w.os
  tape : w'.tape = w.tape
  output : w'.output = w.output
  size : w.heap.size ≤ w'.heap.size
  block : ∀ k, k < w.heap.size → k ∉ E → w'.heap[k]? = w.heap[k]?
structure StB (C : Ctx) (β : Nat → Hd) (S : Sd) (a : Act) (w : World) : Prop where
  size : a.tmps.size = C.nt
  small : C.nt ≤ 100000
  defers : ∃ Ds : List Nat, a.defers = Ds.map markOf ∧ Ds.Nodup ∧ ∀ D ∈ Ds, w.heap[D]? = some (.deferred (some [])) ∧ C.w0.heap.size ≤ D ∧ ∀ p ∈ C.sys, p.1 ≠ D
  sys : ∀ p ∈ C.sys, w.heap[p.1]? = some p.2 ∧ sysO p.2 = true ∧ C.w0.heap.size ≤ p.1
  env : ∀ t v, look t S.env = some v → ∃ x, slotV C a t = some x ∧ RepV w (Mut C.M0 β S.H) β S.H v x
  obs : ∀ n ob, look n S.H = some ob → RepO w (Mut C.M0 β S.H) β S.H (β n) ob
  apart : ∀ n m b ob ob', n ≠ m → look n S.H = some ob → look m S.H = some ob' → own (β n) ob b → ¬ own (β m) ob' b
  place : ∀ n ob b, look n S.H = some ob → own (β n) ob b → b ∈ C.E ∨ C.w0.heap.size ≤ b
  glob : ∀ g cs, look g S.gl = some cs → GlobB w (Mut C.M0 β S.H) g cs
  frame : Frm C.E C.w0 w
  out : ∀ n ob b o, look n S.H = some ob → own (β n) ob b → ¬ C.M0 b o
  low : ∀ b o, C.M0 b o → b < C.w0.heap.size
  fix : ∀ n ∈ C.N, (β n).v = C.b0 n
  has : ∀ n ∈ C.N, (look n S.H).isSome = true
def St (C : Ctx) (S : Sd) (a : Act) (w : World) : Prop := ∃ β, StB C β S a w
mutual
theorem RepV.keep {w w' : World} {M M' : Nat → Nat → Prop} {β β' : Nat → Hd} {H H' : List (Nat × Ob)} (k : Keeps w M w' M')
    (hβ : ∀ n, β' n = β n) (hH : ∀ n e sz sh xs k, look n H' = some (.row e sz sh xs k) → ∃ sh' xs', look n H = some (.row e sz sh' xs' k)) :
    ∀ (x : V) (v : Value), RepV w M β H x v → RepV w' M' β' H' x v
  | .d x, v, h => RepD.keep k x v h
  | .own n q, v, h => fun e sz sh xs hl => by
    obtain ⟨sh', xs', h1⟩ := hH n e sz sh xs q hl
    rw [hβ]
    exact h e sz sh' xs' h1
  | .nils _, _, h => h
  | .zc, _, h => h
  | .ptr n off, _, h => by simp only [RepV] at h ⊢; rw [hβ]; exact h
  | .sl n off _ _, _, h => by simp only [RepV] at h ⊢; rw [hβ]; exact h
  | .el n q i off, v, h => fun e sz sh xs hl => by
    obtain ⟨sh', xs', h1⟩ := hH n e sz sh xs q hl
    rw [hβ]
    exact h e sz sh' xs' h1
  | .suf n q p, v, h => fun e sz sh xs hl => by
    obtain ⟨sh', xs', h1⟩ := hH n e sz sh xs q hl
    rw [hβ]
    exact h e sz sh' xs' h1
  | .win n q p m, v, h => fun e sz sh xs hl => by
    obtain ⟨sh', xs', h1⟩ := hH n e sz sh xs q hl
    rw [hβ]
    exact h e sz sh' xs' h1
  | .map n, _, h => by simp only [RepV] at h ⊢; rw [hβ]; exact h
  | .clo _ f c, _, ⟨fs, gs, h1, h2, h3⟩ => ⟨fs, gs, h1, RepL.keep k hβ hH f fs h2, RepL.keep k hβ hH c gs h3⟩
  | .tup vs, _, ⟨us, h1, h2⟩ => ⟨us, h1, RepL.keep k hβ hH vs us h2⟩
  | .agg vs, _, ⟨us, h1, h0, h2⟩ => ⟨us, h1, h0, RepL.keep k hβ hH vs us h2⟩
  | .ifc _ x, _, ⟨u, h1, h2⟩ => ⟨u, h1, RepV.keep k hβ hH x u h2⟩
  | .bsl n off _, _, h => by simp only [RepV] at h ⊢; rw [hβ]; exact h
theorem RepL.keep {w w' : World} {M M' : Nat → Nat → Prop} {β β' : Nat → Hd} {H H' : List (Nat × Ob)} (k : Keeps w M w' M')
    (hβ : ∀ n, β' n = β n) (hH : ∀ n e sz sh xs k, look n H' = some (.row e sz sh xs k) → ∃ sh' xs', look n H = some (.row e sz sh' xs' k)) :
    ∀ (xs : List V) (vs : List Value), RepL w M β H xs vs → RepL w' M' β' H' xs vs
  | [], _, h => h
  | x :: xs, _, ⟨v, r, h1, h2, h3⟩ => ⟨v, r, h1, RepV.keep k hβ hH x v h2, RepL.keep k hβ hH xs r h3⟩
end
mutual
def V.says (n : Nat) : V → Bool
  | .d _ => false
  | .own m _ => Nat.beq m n
  | .nils _ => false
  | .zc => false
  | .ptr m _ => Nat.beq m n
  | .sl m _ _ _ => Nat.beq m n
  | .el m _ _ _ => Nat.beq m n
  | .suf m _ _ => Nat.beq m n
  | .win m _ _ _ => Nat.beq m n
  | .map m => Nat.beq m n
  | .clo _ f c => saysL n f || saysL n c
  | .tup vs => saysL n vs
  | .agg vs => saysL n vs
  | .ifc _ x => x.says n
  | .bsl m _ _ => Nat.beq m n
def saysL (n : Nat) : List V → Bool
  | [] => false
  | v :: r => v.says n || saysL n r
end
def Ob.says (n : Nat) (ob : Ob) : Bool := saysL n ob.cells
def noneSays (n : Nat) : List (Nat × V) → Bool
  | [] => true
  | (_, v) :: r => !v.says n && noneSays n r
def noneSaysO (n : Nat) : List (Nat × Ob) → Bool
  | [] => true
  | (m, o) :: r => !Nat.beq m n && !o.says n && noneSaysO n r
def Sd.fresh (S : Sd) (n : Nat) : Bool := noneSays n S.env && noneSaysO n S.H
theorem noneSays_look {n t : Nat} : ∀ {l : List (Nat × V)} {v : V}, noneSays n l = true → look t l = some v → v.says n = false
  | [], _, _, h => by simp [look] at h
  | (s, u) :: r, v, h, hl => by
    simp only [noneSays, Bool.and_eq_true, Bool.not_eq_true'] at h
    rw [look_cons] at hl
    split at hl
    · cases hl; exact h.1
    · exact noneSays_look h.2 hl
theorem noneSaysO_look {n m : Nat} : ∀ {l : List (Nat × Ob)} {o : Ob}, noneSaysO n l = true → look m l = some o → m ≠ n ∧ o.says n = false
  | [], _, _, h => by simp [look] at h
  | (s, u) :: r, v, h, hl => by
    simp only [noneSaysO, Bool.and_eq_true, Bool.not_eq_true'] at h
    rw [look_cons] at hl
    split at hl
    · rename_i e
      subst e
      cases hl
      exact ⟨beq_false.1 h.1.1, h.1.2⟩
    · exact noneSaysO_look h.2 hl
theorem Sd.fresh_none {S : Sd} {n : Nat} (h : S.fresh n = true) : look n S.H = none := by
  simp only [Sd.fresh, Bool.and_eq_true] at h
  cases hl : look n S.H with
  | none => rfl
  | some o => exact absurd rfl (noneSaysO_look h.2 hl).1
mutual
theorem RepV.fresh {w w' : World} {M M' : Nat → Nat → Prop} {β β' : Nat → Hd} {H H' : List (Nat × Ob)} {q : Nat} (k : Keeps w M w' M')
    (hβ : ∀ n, n ≠ q → β' n = β n) (hH : ∀ n, n ≠ q → look n H' = look n H) :
    ∀ (x : V) (v : Value), x.says q = false → RepV w M β H x v → RepV w' M' β' H' x v
  | .d x, v, _, h => RepD.keep k x v h
  | .own n q', v, hs, h => fun e sz sh xs hl => by
    have hne : n ≠ q := beq_false.1 (by simpa only [V.says] using hs)
    rw [hH n hne] at hl
    rw [hβ n hne]
    exact h e sz sh xs hl
  | .nils _, _, _, h => h
  | .zc, _, _, h => h
  | .ptr n off, _, hs, h => by
    have hne : n ≠ q := beq_false.1 (by simpa only [V.says] using hs)
    simp only [RepV] at h ⊢; rw [hβ n hne]; exact h
  | .sl n off _ _, _, hs, h => by
    have hne : n ≠ q := beq_false.1 (by simpa only [V.says] using hs)
    simp only [RepV] at h ⊢; rw [hβ n hne]; exact h
  | .el n q' i off, v, hs, h => fun e sz sh xs hl => by
    have hne : n ≠ q := beq_false.1 (by simpa only [V.says] using hs)
    rw [hH n hne] at hl
    rw [hβ n hne]
    exact h e sz sh xs hl
  | .suf n q' p, v, hs, h => fun e sz sh xs hl => by
    have hne : n ≠ q := beq_false.1 (by simpa only [V.says] using hs)
    rw [hH n hne] at hl
    rw [hβ n hne]
    exact h e sz sh xs hl
  | .win n q' p m, v, hs, h => fun e sz sh xs hl => by
    have hne : n ≠ q := beq_false.1 (by simpa only [V.says] using hs)
    rw [hH n hne] at hl
    rw [hβ n hne]
    exact h e sz sh xs hl
  | .map n, _, hs, h => by
    have hne : n ≠ q := beq_false.1 (by simpa only [V.says] using hs)
    simp only [RepV] at h ⊢; rw [hβ n hne]; exact h
  | .clo _ f c, _, hs, ⟨fs, gs, h1, h2, h3⟩ => by
    simp only [V.says, Bool.or_eq_false_iff] at hs
    exact ⟨fs, gs, h1, RepL.fresh k hβ hH f fs hs.1 h2, RepL.fresh k hβ hH c gs hs.2 h3⟩
  | .tup vs, _, hs, ⟨us, h1, h2⟩ => ⟨us, h1, RepL.fresh k hβ hH vs us (by simpa [V.says] using hs) h2⟩
  | .agg vs, _, hs, ⟨us, h1, h0, h2⟩ => ⟨us, h1, h0, RepL.fresh k hβ hH vs us (by simpa [V.says] using hs) h2⟩
  | .ifc _ x, _, hs, ⟨u, h1, h2⟩ => ⟨u, h1, RepV.fresh k hβ hH x u (by simpa [V.says] using hs) h2⟩
  | .bsl n off _, _, hs, h => by
    have hne : n ≠ q := beq_false.1 (by simpa only [V.says] using hs)
    simp only [RepV] at h ⊢; rw [hβ n hne]; exact h
theorem RepL.fresh {w w' : World} {M M' : Nat → Nat → Prop} {β β' : Nat → Hd} {H H' : List (Nat × Ob)} {q : Nat} (k : Keeps w M w' M')
    (hβ : ∀ n, n ≠ q → β' n = β n) (hH : ∀ n, n ≠ q → look n H' = look n H) :
    ∀ (xs : List V) (vs : List Value), saysL q xs = false → RepL w M β H xs vs → RepL w' M' β' H' xs vs
  | [], _, _, h => h
  | x :: xs, _, hs, ⟨v, r, h1, h2, h3⟩ => by
    simp only [saysL, Bool.or_eq_false_iff] at hs
    exact ⟨v, r, h1, RepV.fresh k hβ hH x v hs.1 h2, RepL.fresh k hβ hH xs r hs.2 h3⟩
end
theorem RepL.length {w : World} {M : Nat → Nat → Prop} {β : Nat → Hd} {H : List (Nat × Ob)} : ∀ {xs : List V} {vs : List Value}, RepL w M β H xs vs → vs.length = xs.length
  | [], _, h => by simp only [RepL] at h; subst h; rfl
  | _ :: xs, _, h => by
    simp only [RepL] at h
    obtain ⟨v, r, rfl, _, h4⟩ := h
    simp [RepL.length h4]
theorem RepL.get {w : World} {M : Nat → Nat → Prop} {β : Nat → Hd} {H : List (Nat × Ob)} : ∀ {xs : List V} {vs : List Value}, RepL w M β H xs vs → ∀ {i : Nat} {x : V}, xs[i]? = some x → ∃ v, vs[i]? = some v ∧ RepV w M β H x v
  | [], _, _, _, _, hx => by simp at hx
  | y :: xs, _, h, 0, x, hx => by
    simp only [RepL] at h
    obtain ⟨v, r, rfl, h2, _⟩ := h
    simp at hx
    subst hx
    exact ⟨v, rfl, h2⟩
  | y :: xs, _, h, i + 1, x, hx => by
    simp only [RepL] at h
    obtain ⟨v, r, rfl, h2, h3⟩ := h
    simpa using RepL.get h3 (i := i) (x := x) (by simpa using hx)
theorem RepL.set {w : World} {M : Nat → Nat → Prop} {β : Nat → Hd} {H : List (Nat × Ob)} : ∀ {xs : List V} {vs : List Value}, RepL w M β H xs vs → ∀ (i : Nat) {x : V} {v : Value}, RepV w M β H x v → RepL w M β H (xs.set i x) (vs.set i v)
  | [], _, h, i, _, _, _ => by simp only [RepL] at h; subst h; simp [RepL]
  | y :: xs, _, h, 0, x, v, hx => by
    simp only [RepL] at h
    obtain ⟨u, r, rfl, h2, h3⟩ := h
    exact ⟨v, r, rfl, hx, h3⟩
  | y :: xs, _, h, i + 1, x, v, hx => by
    simp only [RepL] at h
    obtain ⟨u, r, rfl, h2, h3⟩ := h
    exact ⟨u, _, rfl, h2, RepL.set h3 i hx⟩
theorem Frm.refl (E : List Nat) (w : World) : Frm E w w := ⟨rfl, rfl, rfl, Nat.le_refl _, fun _ _ _ => rfl⟩
theorem Frm.trans {E : List Nat} {a b c : World} (h : Frm E a b) (k : Frm E b c) : Frm E a c :=
  ⟨k.os.trans h.os, k.tape.trans h.tape, k.output.trans h.output, Nat.le_trans h.size k.size, fun i hi he => (k.block i (Nat.lt_of_lt_of_le hi h.size) he).trans (h.block i hi he)⟩
theorem Frm.grows {E : List Nat} {a b c : World} (h : Frm E a b) (k : Grows b c) : Frm E a c :=
  h.trans ⟨k.os, k.tape, k.output, k.size, fun i hi _ => k.block i hi⟩
theorem Frm.below {w w' : World} (h : Frm [] w w') : Below w.heap.size w w' := ⟨h.os, h.tape, h.output, h.size, fun k hk => h.block k hk (by simp)⟩
theorem hb_own {w : World} {e sz n b : Nat} {v : Value} {ys : List Value} (h : w.ownsRow 0 e sz v n ys) (hv : hb v = some b) : ∃ cs : Array Value, w.heap[b]? = some (.cells cs e (0, 0)) := by
  rcases h.2 with ⟨rfl, _⟩ | ⟨g, cap, cur, rfl, _, hh, _⟩
  · simp [hb] at hv
  · simp only [hb, Option.some.injEq] at hv
    subst hv
    exact ⟨cur, hh⟩
theorem owns_block {w w' : World} {e sz n : Nat} {v : Value} {ys : List Value} (h : w.ownsRow 0 e sz v n ys) (hk : ∀ b, hb v = some b → w'.heap[b]? = w.heap[b]?) : w'.ownsRow 0 e sz v n ys := by
  refine ⟨h.1, ?_⟩
  rcases h.2 with h2 | ⟨g, cap, cur, hv, hg, hh, r⟩
  · exact .inl h2
  · exact .inr ⟨g, cap, cur, hv, hg, by rw [hk g (by rw [hv]; rfl)]; exact hh, r⟩
theorem SMap.keep {w w' : World} {M M' : Nat → Nat → Prop} {e sz : Nat} {f : ByteArray → List D} {x : Option ByteArray} {es : List MapEntry} {c r : Nat} {bs : List Nat} (k : Keeps w M w' M') (h : SMap w M e sz f x es c r bs)
    (hk : ∀ b ∈ bs, w'.heap[b]? = w.heap[b]?) : SMap w' M' e sz f x es c r bs :=
  ⟨h.key, h.one, h.born, fun en he s h1 h2 => by
    obtain ⟨ys, h3, h4⟩ := h.here en he s h1 h2
    exact ⟨ys, owns_block h3 (fun b hb' => hk b ((h.blk b).2 ⟨en, he, s, h1, h2, hb'⟩)), RepE.keep k _ _ _ h4⟩, h.none, h.blk, h.apart, h.map⟩
theorem RepO.keep {w w' : World} {M M' : Nat → Nat → Prop} {β β' : Nat → Hd} {H H' : List (Nat × Ob)} {v : Hd} (k : Keeps w M w' M') : ∀ {ob : Ob},
    (∀ b, own v ob b → w'.heap[b]? = w.heap[b]?) → (∀ vs, RepL w M β H ob.cells vs → RepL w' M' β' H' ob.cells vs) → RepO w M β H v ob → RepO w' M' β' H' v ob
  | .box cs, hblk, hL, ⟨b, vs, t, h1, h2, h3⟩ => ⟨b, vs, t, h1, by rw [hblk b (.inl (by rw [h1]; rfl))]; exact h2, hL vs h3⟩
  | .row e sz _ xs _, hblk, _, ⟨ys, h1, h2⟩ => ⟨ys, owns_block h1 (fun b hb' => hblk b (.inl hb')), RepE.keep k _ _ _ h2⟩
  | .map _ _, hblk, _, ⟨r, es, clock, h1, h2, h3, h4⟩ => ⟨r, es, clock, h1, by rw [hblk r (.inl (by rw [h1]; rfl))]; exact h2, RepB.keep k _ _ h3, RepB.keep k _ _ h4.1, h4.2⟩
  | .imap cs, hblk, hL, ⟨r, es, clock, vs, h1, h2, h3, h4⟩ => ⟨r, es, clock, vs, h1, by rw [hblk r (.inl (by rw [h1]; rfl))]; exact h2, hL vs h3, h4⟩
  | .smap e sz f x, hblk, hL, ⟨r, es, clock, h1, h2, h3, h4⟩ => ⟨r, es, clock, h1, by rw [hblk r (.inl (by rw [h1]; rfl))]; exact h2, h3.keep k (fun b hb' => hblk b (.inr ⟨rfl, hb'⟩)), fun s y hx => by
    obtain ⟨u, h5, h6⟩ := h4 s y hx
    subst hx
    have h7 := hL [u] ⟨u, [], rfl, h5, rfl⟩
    obtain ⟨u', _, h8, h9, _⟩ := h7
    cases h8
    exact ⟨u, h9, h6⟩⟩
  | .hbox e sz xs i cs, hblk, hL, ⟨b, vs, u, t, ys, h1, h2, h3, h4, h5, h6, h7, h8⟩ => ⟨b, vs, u, t, ys, h1, by rw [hblk b (.inl (by rw [h1]; rfl))]; exact h2, owns_block h3 (fun q hq => hblk q (.inr ⟨rfl, (h5 q).2 hq⟩)), RepE.keep k _ _ _ h4, h5, h6, h7, hL vs h8⟩
  | .sbox cs, hblk, hL, ⟨b, vs, us, t, h1, h2, h3⟩ => ⟨b, vs, us, t, h1, by rw [hblk b (.inl (by rw [h1]; rfl))]; exact h2, hL vs h3⟩
theorem RepO.kind {w : World} {M : Nat → Nat → Prop} {β : Nat → Hd} {H : List (Nat × Ob)} {v : Hd} : ∀ {ob : Ob}, RepO w M β H v ob → ∀ {b : Nat}, own v ob b → ∃ o, w.heap[b]? = some o ∧ sysO o = false ∧ (∀ es c, o = .map es c → ob.mut 0)
  | .box cs, ⟨b, vs, t, h1, h2, h3⟩, b', hb' => by
    rw [own_flat rfl, h1] at hb'
    cases hb'
    exact ⟨_, h2, rfl, fun _ _ h => by cases h⟩
  | .row e sz _ xs _, ⟨ys, h1, h2⟩, b', hb' => by
    obtain ⟨cs, h3⟩ := hb_own h1 ((own_flat rfl).1 hb')
    exact ⟨_, h3, rfl, fun _ _ h => by cases h⟩
  | .map _ _, ⟨r, es, clock, h1, h2, h3⟩, b', hb' => by
    rw [own_flat rfl, h1] at hb'
    cases hb'
    exact ⟨_, h2, rfl, fun _ _ _ => trivial⟩
  | .imap _, ⟨r, es, clock, vs, h1, h2, h3⟩, b', hb' => by
    rw [own_flat rfl, h1] at hb'
    cases hb'
    exact ⟨_, h2, rfl, fun _ _ _ => trivial⟩
  | .smap e sz f x, ⟨r, es, clock, h1, h2, h3, _⟩, b', hb' => by
    rcases hb' with hb' | ⟨_, hb'⟩
    · rw [h1] at hb'
      cases hb'
      exact ⟨_, h2, rfl, fun _ _ _ => trivial⟩
    · obtain ⟨en, h5, s, h6, h7, h8⟩ := (h3.blk b').1 hb'
      obtain ⟨ys, h9, _⟩ := h3.here en h5 s h6 h7
      obtain ⟨cs, h10⟩ := hb_own h9 h8
      exact ⟨_, h10, rfl, fun _ _ _ => trivial⟩
  | .hbox e sz xs i cs, ⟨b, vs, u, t, ys, h1, h2, h3, h4, h5, h6, _⟩, b', hb' => by
    rcases hb' with hb' | ⟨_, hb'⟩
    · rw [h1] at hb'
      cases hb'
      exact ⟨_, h2, rfl, fun _ _ _ => trivial⟩
    · obtain ⟨cs, h10⟩ := hb_own h3 ((h5 b').1 hb')
      exact ⟨_, h10, rfl, fun _ _ _ => trivial⟩
  | .sbox cs, ⟨b, vs, us, t, h1, h2, h3⟩, b', hb' => by
    rw [own_flat rfl, h1] at hb'
    cases hb'
    exact ⟨_, h2, rfl, fun _ _ h => by cases h⟩
theorem RepO.lt {w : World} {M : Nat → Nat → Prop} {β : Nat → Hd} {H : List (Nat × Ob)} {v : Hd} {ob : Ob} (h : RepO w M β H v ob) {b : Nat} (hb' : own v ob b) : b < w.heap.size := by
  obtain ⟨o, h1, _⟩ := h.kind hb'
  exact (Array.getElem?_eq_some_iff.1 h1).1
theorem RepO.later {w w' : World} {M : Nat → Nat → Prop} {β : Nat → Hd} {H : List (Nat × Ob)} {v : Hd} (g : Grows w w') {ob : Ob} (h : RepO w M β H v ob) : RepO w' M β H v ob :=
  RepO.keep (Keeps.below g) (fun b hb' => g.block b (h.lt hb')) (fun _ hL => RepL.keep (Keeps.below g) (fun _ => rfl) (fun _ _ _ sh xs _ h => ⟨sh, xs, h⟩) _ _ hL) h
theorem StB.later {C : Ctx} {β : Nat → Hd} {S : Sd} {a : Act} {w w' : World} (h : StB C β S a w) (g : Grows w w') : StB C β S a w' where
  size := h.size
  small := h.small
  defers := let ⟨Ds, h1, h2, h3⟩ := h.defers; ⟨Ds, h1, h2, fun D hD => ⟨(g.block D (Array.getElem?_eq_some_iff.1 (h3 D hD).1).1).trans (h3 D hD).1, (h3 D hD).2⟩⟩
  sys := fun p hp => ⟨(g.block p.1 (Array.getElem?_eq_some_iff.1 (h.sys p hp).1).1).trans (h.sys p hp).1, (h.sys p hp).2⟩
  env := fun t v hl => let ⟨x, h1, h2⟩ := h.env t v hl; ⟨x, h1, RepV.keep (Keeps.below g) (fun _ => rfl) (fun _ _ _ sh xs _ h => ⟨sh, xs, h⟩) _ _ h2⟩
  obs := fun n ob hl => (h.obs n ob hl).later g
  apart := h.apart
  place := h.place
  glob := fun g' cs hl => (h.glob g' cs hl).keep (Keeps.below g)
  frame := h.frame.grows g
  out := h.out
  low := h.low
  fix := h.fix
  has := h.has
theorem St.later {C : Ctx} {S : Sd} {a : Act} {w w' : World} (h : St C S a w) (g : Grows w w') : St C S a w' := let ⟨β, h⟩ := h; ⟨β, h.later g⟩
def constD : Value → D
  | .int k n => .int k n
  | .bool b => .bool b
  | .string s => .str s
  | .slice none 0 0 => .list 0 []
  | x => .raw x
def constV : Value → V
  | .int k n => .d (.int k n)
  | .bool b => .d (.bool b)
  | .string s => .d (.str s)
  | .slice none 0 0 => .nils 0
  | .pointer a => .d (.raw (.pointer a))
  | .map a => .d (.raw (.map a))
  | .nilFunc => .d (.raw .nilFunc)
  | .agg cs => .d (.agg (cs.toList.map constD))
  | _ => .tup []
def Sd.ev (S : Sd) : Operand → Option V
  | .tmp t => bif Nat.blt t 100000 then look t S.env else none
  | .const v => some (constV v)
  | .global g => (look g S.gl).map fun cs => .d (.ref cs 0)
  | .func f => some (.clo (.func f) [] [])
def okConst : Value → Bool
  | .int _ _ | .bool _ | .string _ | .slice none 0 0 | .pointer _ | .map _ | .nilFunc => true
  | .agg cs => cs.toList.all fun | .agg _ | .tuple _ => false | _ => true
  | _ => false
theorem repA_consts (w : World) (M : Nat → Nat → Prop) : ∀ l : List Value, (l.all fun | .agg _ | .tuple _ => false | _ => true) = true →
    RepA w M (l.map constD) l
  | [], _ => rfl
  | x :: l, h => by
    simp only [List.all_cons, Bool.and_eq_true] at h
    refine ⟨x, l, rfl, ?_, ?_, repA_consts w M l h.2⟩
    · cases x <;> simp_all [Value.oneCell']
    · unfold constD
      split
      · rfl
      · rfl
      · rfl
      · exact ⟨none, 0, [], rfl, Nat.le_refl _, Nat.zero_le _, fun _ => rfl, rfl, Reads.nil _ _ _⟩
      · refine ⟨rfl, ?_⟩
        cases x <;> simp_all [Value.oneCell']
theorem constV_rep {w : World} {M : Nat → Nat → Prop} {β : Nat → Hd} {H : List (Nat × Ob)} {v : Value} (h : okConst v = true) : RepV w M β H (constV v) v := by
  unfold constV
  split
  · rfl
  · rfl
  · rfl
  · rfl
  · exact ⟨rfl, rfl⟩
  · exact ⟨rfl, rfl⟩
  · exact ⟨rfl, rfl⟩
  · rename_i cs
    exact ⟨cs.toList, by simp, repA_consts w M _ (by simpa [okConst] using h)⟩
  · rename_i h1 h2 h3 h4 h5 h6 h7 h8
    unfold okConst at h
    split at h <;> simp_all
def okOp : Operand → Bool
  | .const v => okConst v
  | _ => true
theorem StB.ev {C : Ctx} {β : Nat → Hd} {S : Sd} {a : Act} {w : World} (h : StB C β S a w) {x : Operand} {v : V} (hx : S.ev x = some v) (ho : okOp x = true) : RepV w (Mut C.M0 β S.H) β S.H v (a.eval x) := by
  cases x with
  | tmp t =>
    simp only [Sd.ev] at hx
    cases ht : Nat.blt t 100000 with
    | false => rw [ht] at hx; cases hx
    | true =>
      rw [ht] at hx
      obtain ⟨u, h1, h2⟩ := h.env t v hx
      simp only [slotV, ht, cond_true] at h1
      have : a.eval (.tmp t) = u := by simp [Act.eval, Array.getD_eq_getD_getElem?, h1]
      rw [this]
      exact h2
  | const u =>
    simp only [Sd.ev, Option.some.injEq] at hx
    subst hx
    exact constV_rep ho
  | global g =>
    simp only [Sd.ev, Option.map_eq_some_iff] at hx
    obtain ⟨cs, h1, rfl⟩ := hx
    exact (h.glob g cs h1).ref
  | func f =>
    simp only [Sd.ev, Option.some.injEq] at hx
    subst hx
    exact ⟨[], [], rfl, rfl, rfl⟩
def Sd.put (S : Sd) (t : Nat) (v : V) : Sd := { S with env := (t, v) :: S.env }
theorem put_get (a : Act) (t : Nat) (x : Value) (ht : t < a.tmps.size) (s : Nat) : (a.put (some t) x).tmps[s]? = if t = s then some x else a.tmps[s]? := by
  simp only [Act.put, Array.getElem?_setIfInBounds, ht, if_true]
theorem put_slot (C : Ctx) (a : Act) (t : Nat) (x : Value) (ht : t < a.tmps.size) (h0 : t < 100000) (s : Nat) : slotV C (a.put (some t) x) s = if t = s then some x else slotV C a s := by
  unfold slotV
  cases hs : Nat.blt s 100000 with
  | true => simp only [cond_true]; exact put_get a t x ht s
  | false =>
    simp only [cond_false]
    have : ¬ s < 100000 := fun h => by have h2 : Nat.blt s 100000 = true := Nat.ble_eq_true_of_le h; rw [h2] at hs; cases hs
    rw [if_neg (by omega)]
theorem StB.put {C : Ctx} {β : Nat → Hd} {S : Sd} {a : Act} {w : World} (h : StB C β S a w) {t : Nat} (ht : t < C.nt) {v : V} {x : Value} (hx : RepV w (Mut C.M0 β S.H) β S.H v x) : StB C β (S.put t v) (a.put (some t) x) w where
  size := by simp [Act.put, h.size]
  small := h.small
  defers := h.defers
  sys := h.sys
  env := fun s u hl => by
    rw [put_slot C a t x (by rw [h.size]; exact ht) (Nat.lt_of_lt_of_le ht h.small)]
    have hl' : look s ((t, v) :: S.env) = some u := hl
    rw [look_cons] at hl'
    split
    · rename_i e
      rw [if_pos e] at hl'
      cases hl'
      exact ⟨x, rfl, hx⟩
    · rename_i e
      rw [if_neg e] at hl'
      exact h.env s u hl'
  obs := h.obs
  apart := h.apart
  place := h.place
  glob := h.glob
  frame := h.frame
  out := h.out
  low := h.low
  fix := h.fix
  has := h.has
theorem StB.weak {C : Ctx} {β : Nat → Hd} {S S' : Sd} {a : Act} {w : World} (h : StB C β S a w) (he : ∀ t v, look t S'.env = some v → look t S.env = some v)
    (hH : ∀ n ob, look n S'.H = some ob → look n S.H = some ob) (hg : ∀ g cs, look g S'.gl = some cs → look g S.gl = some cs) (hN : ∀ n ∈ C.N, (look n S'.H).isSome = true) : StB C β S' a w := by
  have k : Keeps w (Mut C.M0 β S.H) w (Mut C.M0 β S'.H) := Keeps.weak fun b o hm => by
    rcases hm with hm | ⟨n, ob, h1, h2, h3⟩
    · exact .inl hm
    · exact .inr ⟨n, ob, hH n ob h1, h2, h3⟩
  have hr : ∀ n e sz sh xs k, look n S'.H = some (.row e sz sh xs k) → ∃ sh' xs', look n S.H = some (.row e sz sh' xs' k) := fun n e sz sh xs k hl => ⟨sh, xs, hH n _ hl⟩
  refine ⟨h.size, h.small, h.defers, h.sys, fun t v hl => ?_, fun n ob hl => ?_, fun n m b ob ob' hne h1 h2 => h.apart n m b ob ob' hne (hH n ob h1) (hH m ob' h2), fun n ob b hl => h.place n ob b (hH n ob hl), fun g cs hl => (h.glob g cs (hg g cs hl)).keep k, h.frame, fun n ob b o hl => h.out n ob b o (hH n ob hl), h.low, h.fix, hN⟩
  · obtain ⟨x, h1, h2⟩ := h.env t v (he t v hl)
    exact ⟨x, h1, RepV.keep k (fun _ => rfl) hr v x h2⟩
  · exact RepO.keep k (fun _ _ => rfl) (fun _ hL => RepL.keep k (fun _ => rfl) hr _ _ hL) (h.obs n ob (hH n ob hl))
end
section
end
section
def upd (β : Nat → Hd) (n : Nat) (v : Value) : Nat → Hd := fun m => if m = n then ⟨v, []⟩ else β m
theorem upd_same (β : Nat → Hd) (n : Nat) (v : Value) : upd β n v n = ⟨v, []⟩ := by simp [upd]
theorem upd_v (β : Nat → Hd) (n : Nat) (v : Value) : (upd β n v n).v = v := by simp [upd]
theorem upd_other (β : Nat → Hd) (n : Nat) (v : Value) {m : Nat} (h : m ≠ n) : upd β n v m = β m := by simp [upd, h]
theorem RepO.notSys {w : World} {M : Nat → Nat → Prop} {β : Nat → Hd} {H : List (Nat × Ob)} {v : Hd} {ob : Ob} (h : RepO w M β H v ob) {D : Nat} {o : Obj} (ho : w.heap[D]? = some o) (hs : sysO o = true) : ¬ own v ob D := fun hb' => by
  obtain ⟨o', h1, h2, _⟩ := h.kind hb'
  rw [ho] at h1
  cases h1
  rw [hs] at h2
  cases h2
theorem StB.old {C : Ctx} {β : Nat → Hd} {S : Sd} {a : Act} {w : World} (h : StB C β S a w) {n : Nat} {ob : Ob} (hl : look n S.H = some ob) {b : Nat} (hb' : own (β n) ob b) : b < w.heap.size := (h.obs n ob hl).lt hb'
theorem StB.newObj {C : Ctx} {β : Nat → Hd} {S : Sd} {a : Act} {w w' : World} (h : StB C β S a w) {n : Nat} (hn : S.fresh n = true) (v : Value) (g : Grows w w') (hv0 : ∀ b, hb v = some b → w.heap.size ≤ b) (ob : Ob)
    (hrep : Keeps w (Mut C.M0 β S.H) w' (Mut C.M0 (upd β n v) ((n, ob) :: S.H)) → RepO w' (Mut C.M0 (upd β n v) ((n, ob) :: S.H)) (upd β n v) ((n, ob) :: S.H) ⟨v, []⟩ ob) :
    StB C (upd β n v) { S with H := (n, ob) :: S.H } a w' := by
  have hnone := Sd.fresh_none hn
  have hv : ∀ {ob : Ob} b, own ⟨v, []⟩ ob b → w.heap.size ≤ b := fun b hb' => by
    rcases hb' with hb' | ⟨_, hb'⟩
    · exact hv0 b hb'
    · cases hb'
  simp only [Sd.fresh, Bool.and_eq_true] at hn
  have k0 : ∀ b o, b < w.heap.size → ¬ Mut C.M0 β S.H b o → ¬ Mut C.M0 (upd β n v) ((n, ob) :: S.H) b o := fun b o hlt h1 hm => by
    rcases hm with hm | ⟨m, ob', h3, h4, h5⟩
    · exact h1 (.inl hm)
    · rw [look_cons] at h3
      split at h3
      · rename_i e
        subst e
        cases h3
        rw [upd_same] at h4
        have := hv b h4
        omega
      · rename_i e
        rw [upd_other β n v (Ne.symm e)] at h4
        exact h1 (.inr ⟨m, ob', h3, h4, h5⟩)
  have k : Keeps w (Mut C.M0 β S.H) w' (Mut C.M0 (upd β n v) ((n, ob) :: S.H)) :=
    ⟨fun b o y h1 h2 => have hlt := World.block_lt_of_cell? w ⟨b, o, none⟩ h2; ⟨k0 b o hlt h1, (g.cell (p := ⟨b, o, none⟩) hlt).trans h2⟩,
     fun b ob' _ h1 h2 => have hlt := (Array.getElem?_eq_some_iff.1 h2).1; ⟨fun o => k0 b o hlt (h1 o), (g.block b hlt).trans h2⟩⟩
  have hH : ∀ m, m ≠ n → look m ((n, ob) :: S.H) = look m S.H := fun m hm => by rw [look_cons, if_neg (Ne.symm hm)]
  refine ⟨h.size, h.small, (h.later g).defers, (h.later g).sys, fun t x hl => ?_, fun m ob' hl => ?_, fun m m' b ob1 ob2 hne h1 h2 h3 => ?_, fun m ob' b hl hb' => ?_, fun q cs hl => (h.glob q cs hl).keep k, h.frame.grows g, fun m ob' b o hl hb' hm => ?_, h.low, fun m hm => ?_, fun m hm => ?_⟩
  · obtain ⟨u, h1, h2⟩ := h.env t x hl
    exact ⟨u, h1, RepV.fresh k (fun m hm => upd_other β n v hm) hH x u (noneSays_look hn.1 hl) h2⟩
  · have hl' := hl
    dsimp only at hl'
    rw [look_cons] at hl'
    split at hl'
    · rename_i e
      subst e
      cases hl'
      rw [upd_same]
      exact hrep k
    · rename_i e
      rw [upd_other β n v (Ne.symm e)]
      exact RepO.keep k (fun b hb' => g.block b (h.old hl' hb')) (fun vs => RepL.fresh k (fun m hm => upd_other β n v hm) hH _ vs (noneSaysO_look hn.2 hl').2) (h.obs m ob' hl')
  · dsimp only at h1 h2
    rw [look_cons] at h1 h2
    split at h1
    · rename_i e
      subst e
      rw [if_neg hne] at h2
      rw [upd_same] at h3
      rw [upd_other β n v (Ne.symm hne)]
      intro h4
      have := h.old h2 h4
      have := hv b h3
      omega
    · rename_i e
      rw [upd_other β n v (Ne.symm e)] at h3
      split at h2
      · rename_i e2
        subst e2
        rw [upd_same]
        intro h4
        have := h.old h1 h3
        have := hv b h4
        omega
      · rename_i e2
        rw [upd_other β n v (Ne.symm e2)]
        exact h.apart m m' b ob1 ob2 hne h1 h2 h3
  · dsimp only at hl
    rw [look_cons] at hl
    split at hl
    · rename_i e
      subst e
      rw [upd_same] at hb'
      exact .inr (Nat.le_trans h.frame.size (hv b hb'))
    · rename_i e
      rw [upd_other β n v (Ne.symm e)] at hb'
      exact h.place m ob' b hl hb'
  · dsimp only at hl
    rw [look_cons] at hl
    split at hl
    · rename_i e
      subst e
      rw [upd_same] at hb'
      have := hv b hb'
      have := h.low b o hm
      have := h.frame.size
      omega
    · rename_i e
      rw [upd_other β n v (Ne.symm e)] at hb'
      exact h.out m ob' b o hl hb' hm
  · have h1 := h.has m hm
    have h2 : m ≠ n := by rintro rfl; rw [hnone] at h1; cases h1
    rw [upd_other β n v h2]
    exact h.fix m hm
  · dsimp only
    rw [look_cons]
    split
    · rfl
    · exact h.has m hm
theorem StB.turnG {C : Ctx} {β β' : Nat → Hd} {S : Sd} {a : Act} {w w' : World} (h : StB C β S a w) {n : Nat} {ob ob' : Ob} (hl : look n S.H = some ob)
    (hβ : ∀ m, m ≠ n → β' m = β m) (ho : w'.os = w.os) (ht : w'.tape = w.tape) (hu : w'.output = w.output) (hs : w.heap.size ≤ w'.heap.size)
    (hblk : ∀ k, k < w.heap.size → ¬ own (β n) ob k → w'.heap[k]? = w.heap[k]?)
    (hnew : ∀ b, own (β' n) ob' b → own (β n) ob b ∨ w.heap.size ≤ b)
    (hcell : ∀ b o y, own (β n) ob b → ¬ ob.mut o → w.cell? ⟨b, o, none⟩ = some y → w'.cell? ⟨b, o, none⟩ = some y)
    (hmut : ∀ b o, own (β n) ob b → own (β' n) ob' b → ob'.mut o → ob.mut o)
    (hV : Keeps w (Mut C.M0 β S.H) w' (Mut C.M0 β' ((n, ob') :: S.H)) → ∀ t x v, look t S.env = some x → RepV w (Mut C.M0 β S.H) β S.H x v → RepV w' (Mut C.M0 β' ((n, ob') :: S.H)) β' ((n, ob') :: S.H) x v)
    (hfix : n ∈ C.N → (β' n).v = (β n).v)
    (hL : Keeps w (Mut C.M0 β S.H) w' (Mut C.M0 β' ((n, ob') :: S.H)) → ∀ m ob2 vs, m ≠ n → look m S.H = some ob2 → RepL w (Mut C.M0 β S.H) β S.H ob2.cells vs → RepL w' (Mut C.M0 β' ((n, ob') :: S.H)) β' ((n, ob') :: S.H) ob2.cells vs)
    (hrep : Keeps w (Mut C.M0 β S.H) w' (Mut C.M0 β' ((n, ob') :: S.H)) → RepO w' (Mut C.M0 β' ((n, ob') :: S.H)) β' ((n, ob') :: S.H) (β' n) ob') :
    StB C β' { S with H := (n, ob') :: S.H } a w' := by
  have k0 : ∀ b o, b < w.heap.size → ¬ Mut C.M0 β S.H b o → ¬ Mut C.M0 β' ((n, ob') :: S.H) b o := fun b o hlt h1 hm => by
    rcases hm with hm | ⟨m, ob2, h3, h4, h5⟩
    · exact h1 (.inl hm)
    · rw [look_cons] at h3
      split at h3
      · rename_i e
        subst e
        cases h3
        rcases hnew b h4 with h6 | h6
        · exact h1 (.inr ⟨n, ob, hl, h6, hmut b o h6 h4 h5⟩)
        · omega
      · rename_i e
        rw [hβ m (Ne.symm e)] at h4
        exact h1 (.inr ⟨m, ob2, h3, h4, h5⟩)
  have k : Keeps w (Mut C.M0 β S.H) w' (Mut C.M0 β' ((n, ob') :: S.H)) := by
    refine ⟨fun b o y h1 h2 => ?_, fun b ob3 _ h1 h2 => ?_⟩
    · have hlt : b < w.heap.size := World.block_lt_of_cell? w ⟨b, o, none⟩ h2
      refine ⟨k0 b o hlt h1, ?_⟩
      by_cases hbn : own (β n) ob b
      · exact hcell b o y hbn (fun hm => h1 (.inr ⟨n, ob, hl, hbn, hm⟩)) h2
      · rw [← h2]
        exact World.cell?_of_block (hblk b hlt hbn)
    · have hlt := (Array.getElem?_eq_some_iff.1 h2).1
      refine ⟨fun o => k0 b o hlt (h1 o), ?_⟩
      by_cases hbn : own (β n) ob b
      · obtain ⟨o, h3⟩ := ob.mut_some
        exact absurd (.inr ⟨n, ob, hl, hbn, h3⟩) (h1 o)
      · exact (hblk b hlt hbn).trans h2
  have hsys : ∀ D o, w.heap[D]? = some o → sysO o = true → w'.heap[D]? = some o := fun D o ho hs' =>
    (hblk D (Array.getElem?_eq_some_iff.1 ho).1 ((h.obs n ob hl).notSys ho hs')).trans ho
  obtain ⟨Ds, hd1, hd2, hd3⟩ := h.defers
  refine ⟨h.size, h.small, ⟨Ds, hd1, hd2, fun D hD => ⟨hsys D _ (hd3 D hD).1 rfl, (hd3 D hD).2⟩⟩, fun p hp => ⟨hsys _ _ (h.sys p hp).1 (h.sys p hp).2.1, (h.sys p hp).2⟩, fun t x hx => ?_, fun m ob2 hm => ?_, fun m m' b ob1 ob2 hne h1 h2 h3 => ?_, fun m ob2 b hm hb' => ?_, fun q cs hq => (h.glob q cs hq).keep k, ?_, fun m ob2 b o hm hb' hM => ?_, h.low, fun m hm => ?_, fun m hm => ?_⟩
  · obtain ⟨u, h1, h2⟩ := h.env t x hx
    exact ⟨u, h1, hV k t x u hx h2⟩
  · dsimp only at hm
    rw [look_cons] at hm
    split at hm
    · rename_i e
      subst e
      cases hm
      exact hrep k
    · rename_i e
      rw [hβ m (Ne.symm e)]
      exact RepO.keep (ob := ob2) k (fun b hb' => hblk b (h.old hm hb') (fun h2 => h.apart n m b ob ob2 e hl hm h2 hb')) (fun vs => hL k m ob2 vs (Ne.symm e) hm) (h.obs m ob2 hm)
  · dsimp only at h1 h2
    rw [look_cons] at h1 h2
    split at h1
    · rename_i e
      subst e
      cases h1
      rw [if_neg hne] at h2
      rw [hβ m' (Ne.symm hne)]
      rcases hnew b h3 with h4 | h4
      · exact h.apart n m' b ob ob2 hne hl h2 h4
      · intro h5
        have := h.old h2 h5
        omega
    · rename_i e
      rw [hβ m (Ne.symm e)] at h3
      split at h2
      · rename_i e2
        subst e2
        cases h2
        intro h5
        rcases hnew b h5 with h4 | h4
        · exact h.apart n m b ob ob1 e hl h1 h4 h3
        · have := h.old h1 h3
          omega
      · rename_i e2
        rw [hβ m' (Ne.symm e2)]
        exact h.apart m m' b ob1 ob2 hne h1 h2 h3
  · dsimp only at hm
    rw [look_cons] at hm
    split at hm
    · rename_i e
      subst e
      cases hm
      rcases hnew b hb' with h4 | h4
      · exact h.place n ob b hl h4
      · exact .inr (Nat.le_trans h.frame.size h4)
    · rename_i e
      rw [hβ m (Ne.symm e)] at hb'
      exact h.place m ob2 b hm hb'
  · refine ⟨ho.trans h.frame.os, ht.trans h.frame.tape, hu.trans h.frame.output, Nat.le_trans h.frame.size hs, fun i hi he => ?_⟩
    have hlt : i < w.heap.size := Nat.lt_of_lt_of_le hi h.frame.size
    by_cases hbn : own (β n) ob i
    · rcases h.place n ob i hl hbn with h4 | h4
      · exact absurd h4 he
      · omega
    · exact (hblk i hlt hbn).trans (h.frame.block i hi he)
  · dsimp only at hm
    rw [look_cons] at hm
    split at hm
    · rename_i e
      subst e
      cases hm
      rcases hnew b hb' with h4 | h4
      · exact h.out n ob b o hl h4 hM
      · have := h.low b o hM
        have := h.frame.size
        omega
    · rename_i e
      rw [hβ m (Ne.symm e)] at hb'
      exact h.out m ob2 b o hm hb' hM
  · by_cases e : m = n
    · subst e
      rw [hfix hm]
      exact h.fix m hm
    · rw [hβ m e]
      exact h.fix m hm
  · dsimp only
    rw [look_cons]
    split
    · rfl
    · exact h.has m hm
theorem StB.turn {C : Ctx} {β β' : Nat → Hd} {S : Sd} {a : Act} {w w' : World} (h : StB C β S a w) {n : Nat} {ob ob' : Ob} (hl : look n S.H = some ob)
    (hβ : ∀ m, m ≠ n → β' m = β m) (ho : w'.os = w.os) (ht : w'.tape = w.tape) (hu : w'.output = w.output) (hs : w.heap.size ≤ w'.heap.size)
    (hblk : ∀ k, k < w.heap.size → hb (β n).v ≠ some k → w'.heap[k]? = w.heap[k]?)
    (hnew : ∀ b, hb (β' n).v = some b → hb (β n).v = some b ∨ w.heap.size ≤ b)
    (hcell : ∀ b o y, hb (β n).v = some b → ¬ ob.mut o → w.cell? ⟨b, o, none⟩ = some y → w'.cell? ⟨b, o, none⟩ = some y)
    (hmut : ∀ b o, hb (β n).v = some b → hb (β' n).v = some b → ob'.mut o → ob.mut o)
    (hV : Keeps w (Mut C.M0 β S.H) w' (Mut C.M0 β' ((n, ob') :: S.H)) → ∀ t x v, look t S.env = some x → RepV w (Mut C.M0 β S.H) β S.H x v → RepV w' (Mut C.M0 β' ((n, ob') :: S.H)) β' ((n, ob') :: S.H) x v)
    (hfix : n ∈ C.N → (β' n).v = (β n).v)
    (hL : Keeps w (Mut C.M0 β S.H) w' (Mut C.M0 β' ((n, ob') :: S.H)) → ∀ m ob2 vs, m ≠ n → look m S.H = some ob2 → RepL w (Mut C.M0 β S.H) β S.H ob2.cells vs → RepL w' (Mut C.M0 β' ((n, ob') :: S.H)) β' ((n, ob') :: S.H) ob2.cells vs)
    (hrep : Keeps w (Mut C.M0 β S.H) w' (Mut C.M0 β' ((n, ob') :: S.H)) → RepO w' (Mut C.M0 β' ((n, ob') :: S.H)) β' ((n, ob') :: S.H) (β' n) ob') (hd : ob.deep = false := by rfl) (hd' : ob'.deep = false := by rfl) :
    StB C β' { S with H := (n, ob') :: S.H } a w' :=
  h.turnG hl hβ ho ht hu hs (fun k h1 h2 => hblk k h1 (fun h3 => h2 (.inl h3))) (fun b h1 => by rw [own_flat hd'] at h1; rw [own_flat hd]; exact hnew b h1)
    (fun b o y h1 => hcell b o y ((own_flat hd).1 h1)) (fun b o h1 h2 => hmut b o ((own_flat hd).1 h1) ((own_flat hd').1 h2)) hV hfix hL hrep
theorem look_set {n : Nat} {ob : Ob} {H : List (Nat × Ob)} (m : Nat) : look m ((n, ob) :: H) = if n = m then some ob else look m H := look_cons m n ob H
theorem StB.share {C : Ctx} {β : Nat → Hd} {S : Sd} {a : Act} {w : World} (h : StB C β S a w) {n e sz k : Nat} {sh : Bool} {xs : List D} (hl : look n S.H = some (.row e sz sh xs k)) :
    StB C β { S with H := (n, .row e sz true xs k) :: S.H } a w := by
  have hH : ∀ m e' sz' sh' xs' k', look m ((n, Ob.row e sz true xs k) :: S.H) = some (.row e' sz' sh' xs' k') → ∃ sh' xs', look m S.H = some (.row e' sz' sh' xs' k') := fun m e' sz' sh' xs' k' hm => by
    rw [look_set] at hm
    split at hm
    · rename_i e
      subst e
      cases hm
      exact ⟨sh, xs, hl⟩
    · exact ⟨sh', xs', hm⟩
  refine h.turn hl (fun _ _ => rfl) rfl rfl rfl (Nat.le_refl _) (fun _ _ _ => rfl) (fun b h => .inl h) (fun _ _ _ _ _ h => h) (fun b o _ _ h => ?_)
    (fun k t x v _ => RepV.keep k (fun _ => rfl) hH x v) (fun _ => rfl) (fun k m cs vs _ _ => RepL.keep k (fun _ => rfl) hH _ vs) (fun k => ?_)
  · rcases h with h | h
    · cases h
    · exact .inr h
  · obtain ⟨ys, h1, h2⟩ := h.obs n _ hl
    exact ⟨ys, h1, RepE.keep k _ _ _ h2⟩
mutual
def V.top : V → Nat
  | .own _ k => k + 1
  | .el _ k _ _ => k + 1
  | .suf _ k _ => k + 1
  | .win _ k _ _ => k + 1
  | .clo _ f c => max (topL f) (topL c)
  | .tup vs => topL vs
  | .agg vs => topL vs
  | .ifc _ x => x.top
  | _ => 0
def topL : List V → Nat
  | [] => 0
  | v :: r => max v.top (topL r)
end
def topE : List (Nat × V) → Nat
  | [] => 0
  | (_, v) :: r => max v.top (topE r)
def topO : List (Nat × Ob) → Nat
  | [] => 0
  | (_, ob) :: r => max (topL ob.cells) (topO r)
theorem topE_look {t : Nat} : ∀ {l : List (Nat × V)} {v : V}, look t l = some v → v.top ≤ topE l
  | [], _, h => by simp [look] at h
  | (s, u) :: r, v, h => by
    rw [look_cons] at h
    simp only [topE]
    split at h
    · cases h; omega
    · have := topE_look h; omega
theorem topO_look {t : Nat} : ∀ {l : List (Nat × Ob)} {ob : Ob}, look t l = some ob → topL ob.cells ≤ topO l
  | [], _, h => by simp [look] at h
  | (s, u) :: r, ob, h => by
    rw [look_cons] at h
    simp only [topO]
    split at h
    · cases h; omega
    · have := topO_look h; omega
mutual
theorem RepV.bump {w w' : World} {M M' : Nat → Nat → Prop} {β β' : Nat → Hd} {H H' : List (Nat × Ob)} {q top : Nat} (k : Keeps w M w' M') (hβ : ∀ n, n ≠ q → β' n = β n) (hsl : (∃ a n c, (β q).v = .slice a n c))
    (hH : ∀ n, n ≠ q → look n H' = look n H) (hq : ∀ e sz sh xs k, look q H' = some (.row e sz sh xs k) → top ≤ k) :
    ∀ (x : V) (v : Value), x.top ≤ top → RepV w M β H x v → RepV w' M' β' H' x v
  | .d x, v, _, h => RepD.keep k x v h
  | .own n q', v, hs, h => fun e sz sh xs hl => by
    by_cases hn : n = q
    · subst hn
      have := hq e sz sh xs q' hl
      simp only [V.top] at hs
      omega
    · rw [hH n hn] at hl
      rw [hβ n hn]
      exact h e sz sh xs hl
  | .nils _, _, _, h => h
  | .zc, _, _, h => h
  | .ptr n off, _, _, h => by
    simp only [RepV] at h ⊢
    by_cases hn : n = q
    · subst hn
      obtain ⟨a, m, c, e⟩ := hsl
      obtain ⟨b, h1, _⟩ := h
      rw [e] at h1
      cases h1
    · rw [hβ n hn]
      exact h
  | .sl n off _ _, _, _, h => by
    simp only [RepV] at h ⊢
    by_cases hn : n = q
    · subst hn
      obtain ⟨a, m, c, e⟩ := hsl
      obtain ⟨b, h1, _⟩ := h
      rw [e] at h1
      cases h1
    · rw [hβ n hn]
      exact h
  | .el n q' i off, v, hs, h => fun e sz sh xs hl => by
    by_cases hn : n = q
    · subst hn
      have := hq e sz sh xs q' hl
      simp only [V.top] at hs
      omega
    · rw [hH n hn] at hl
      rw [hβ n hn]
      exact h e sz sh xs hl
  | .suf n q' p, v, hs, h => fun e sz sh xs hl => by
    by_cases hn : n = q
    · subst hn
      have := hq e sz sh xs q' hl
      simp only [V.top] at hs
      omega
    · rw [hH n hn] at hl
      rw [hβ n hn]
      exact h e sz sh xs hl
  | .win n q' p m, v, hs, h => fun e sz sh xs hl => by
    by_cases hn : n = q
    · subst hn
      have := hq e sz sh xs q' hl
      simp only [V.top] at hs
      omega
    · rw [hH n hn] at hl
      rw [hβ n hn]
      exact h e sz sh xs hl
  | .map n, _, _, h => by
    simp only [RepV] at h ⊢
    by_cases hn : n = q
    · subst hn
      obtain ⟨a, m, c, e⟩ := hsl
      obtain ⟨b, h1, _⟩ := h
      rw [e] at h1
      cases h1
    · rw [hβ n hn]
      exact h
  | .clo _ f c, _, hs, ⟨fs, gs, h1, h2, h3⟩ => by
    simp only [V.top] at hs
    exact ⟨fs, gs, h1, RepL.bump k hβ hsl hH hq f fs (by omega) h2, RepL.bump k hβ hsl hH hq c gs (by omega) h3⟩
  | .tup vs, _, hs, ⟨us, h1, h2⟩ => ⟨us, h1, RepL.bump k hβ hsl hH hq vs us (by simpa only [V.top] using hs) h2⟩
  | .agg vs, _, hs, ⟨us, h1, h0, h2⟩ => ⟨us, h1, h0, RepL.bump k hβ hsl hH hq vs us (by simpa only [V.top] using hs) h2⟩
  | .ifc _ x, _, hs, ⟨u, h1, h2⟩ => ⟨u, h1, RepV.bump k hβ hsl hH hq x u (by simpa only [V.top] using hs) h2⟩
  | .bsl n off _, _, _, h => by
    simp only [RepV] at h ⊢
    by_cases hn : n = q
    · subst hn
      obtain ⟨a, m, c, e⟩ := hsl
      obtain ⟨b, _, h1, _⟩ := h
      rw [e] at h1
      cases h1
    · rw [hβ n hn]
      exact h
theorem RepL.bump {w w' : World} {M M' : Nat → Nat → Prop} {β β' : Nat → Hd} {H H' : List (Nat × Ob)} {q top : Nat} (k : Keeps w M w' M') (hβ : ∀ n, n ≠ q → β' n = β n) (hsl : (∃ a n c, (β q).v = .slice a n c))
    (hH : ∀ n, n ≠ q → look n H' = look n H) (hq : ∀ e sz sh xs k, look q H' = some (.row e sz sh xs k) → top ≤ k) :
    ∀ (xs : List V) (vs : List Value), topL xs ≤ top → RepL w M β H xs vs → RepL w' M' β' H' xs vs
  | [], _, _, h => h
  | x :: xs, _, hs, ⟨v, r, h1, h2, h3⟩ => by
    simp only [topL] at hs
    exact ⟨v, r, h1, RepV.bump k hβ hsl hH hq x v (by omega) h2, RepL.bump k hβ hsl hH hq xs r (by omega) h3⟩
end
end
section
theorem run_app {P : Program} (w : World) {t ty e : TypeId} {size bytes : Nat} (he : Elem P t e size bytes) {v : Value} {n : Nat} {xs : List Value} (hown : w.ownsRow 0 e size v n xs)
    {xa : Option Addr} {m xc : Nat} {news : List Value} (hl : news.length = m * size) (hrd : ∀ j u, news[j]? = some u → ∃ b o, xa = some ⟨b, o, none⟩ ∧ w.cell? ⟨b, o + j, none⟩ = some u) (hnil : xa = none → xc = 0) (hmc : m ≤ xc)
    (h1 : ∀ u ∈ news, u.oneCell' = true) (h63 : n + m ≤ 100000000000) (hby : bytes ≤ 1024) :
    ∃ v' w', (Builtin.append_ #[t, t] ty #[v, .slice xa m xc]).run P w = .ok v' w' ∧ w'.ownsRow 0 e size v' (n + m) (xs ++ news) ∧
      ((v'.ownBlock = v.ownBlock ∧ w.grownBy w' v.ownBlock) ∨ ((∀ b, v'.ownBlock = some b → w.heap.size ≤ b) ∧ w.grownBy w' none)) := by
  obtain ⟨i, z, ht, hi, hz, hsize, hbytes, hzs, hpos⟩ := he
  have hbound : (n + m) * bytes ≤ 140737488355328 := Nat.le_trans (Nat.mul_le_mul h63 hby) (by omega)
  have hmax : n + m ≤ maxLen := by unfold maxLen; omega
  cases xa with
  | none =>
    have hc0 := hnil rfl
    have hm0 : m = 0 := by omega
    subst hm0; subst hc0
    have hn0 : news = [] := List.eq_nil_of_length_eq_zero (by omega)
    subst hn0
    have hrun := run_append_owned_none (P := P) (w := w) 0 t ty e i size ht hi v n xs hown
    exact ⟨v, w, hrun, by simpa using hown, .inl ⟨rfl, rfl, rfl, rfl, Nat.le_refl _, fun _ _ _ => rfl⟩⟩
  | some ad =>
    have hnews : ∀ j u, news[j]? = some u → w.cell? (ad.add j) = some u := by
      intro j u hu
      obtain ⟨b, o', e', hc⟩ := hrd j u hu
      cases e'
      have ha : (⟨b, o', none⟩ : Addr).add j = ⟨b, o' + j, none⟩ := by unfold Addr.add; split <;> simp_all
      rw [ha]
      exact hc
    rcases hown.2 with ⟨rfl, rfl⟩ | ⟨g, cap, cur, rfl, hbg, hg, hnc, hcm, hcs, htake⟩
    · obtain ⟨v', w', hr, h2, h3, h4, h5⟩ := run_append_own_at (P := P) w 0 t ty e i z size bytes ht hi hz hsize hbytes hzs hpos _ 0 xs hown ad m xc news hl hnews h1 hmax hbound (Nat.zero_le _)
      refine ⟨v', w', hr, h2, .inr ⟨fun b hb' => ?_, h3⟩⟩
      rcases h5 with h5 | h5
      · rw [h5] at hb'
        cases hb'
      · rw [h5] at hb'
        cases hb'
        exact Nat.le_refl _
    · by_cases hroom : n + m ≤ cap
      · obtain ⟨w', hr, h2, h3⟩ := run_append_fits (P := P) w 0 t ty e i size ht hi hsize g n cap xs hown ad m xc news hl hnews h1 hroom
        exact ⟨_, w', hr, h2, .inl ⟨rfl, h3⟩⟩
      · obtain ⟨v', w', hr, h2, h3⟩ := run_append_arg_grows (P := P) w t ty e i z size bytes ht hi hz hsize hbytes hzs hpos ⟨g, 0, none⟩ n cap xs hown.1
          (fun j u hu => hown.cells (g := g) (by simp [Value.ownBlock]) j u hu) ad m xc news hl hnews (by omega) hmax hbound
        exact ⟨v', w', hr, owns_mono h2 (Nat.zero_le _), .inr ⟨fun b hb' => (h2.lt b hb').1, h3⟩⟩
theorem hb_row {w : World} {base : Nat} {e : TypeId} {size : Nat} {v : Value} {n : Nat} {xs : List Value} (h : w.ownsRow base e size v n xs) : hb v = v.ownBlock := by
  rcases h.2 with ⟨rfl, _⟩ | ⟨g, cap, cur, rfl, _⟩ <;> rfl
theorem row_cell {w : World} {e : TypeId} {size : Nat} {v : Value} {n : Nat} {xs : List Value} (h : w.ownsRow 0 e size v n xs) {b : Nat} (hv : v.ownBlock = some b) {o : Nat} {y : Value} (ho : o < n * size) (hc : w.cell? ⟨b, o, none⟩ = some y) : xs[o]? = some y := by
  have hlt : o < xs.length := by rw [h.1]; exact ho
  have := h.cells (g := b) hv o xs[o] (by simp [hlt])
  have ha : (⟨b, 0, none⟩ : Addr).add o = ⟨b, o, none⟩ := by unfold Addr.add; split <;> simp_all
  rw [ha, hc] at this
  cases this
  simp [hlt]
theorem StB.append {C : Ctx} {β : Nat → Hd} {S : Sd} {a : Act} {w w' : World} (h : StB C β S a w) {n e sz k : Nat} {sh : Bool} {xs : List D} (hl : look n S.H = some (.row e sz sh xs k)) {old news : List Value} {zs : List D}
    (hold : w.ownsRow 0 e sz (β n).v xs.length old) (hxs : RepE w (Mut C.M0 β S.H) sz xs old) (hzs : RepE w (Mut C.M0 β S.H) sz zs news) {v' : Value}
    (hown : w'.ownsRow 0 e sz v' (xs.length + zs.length) (old ++ news))
    (hw : (v'.ownBlock = (β n).v.ownBlock ∧ w.grownBy w' (β n).v.ownBlock) ∨ ((∀ b, v'.ownBlock = some b → w.heap.size ≤ b) ∧ w.grownBy w' none)) (k' : Nat) (hk : max (topE S.env) (topO S.H) ≤ k') (hN : C.N.contains n = false) :
    StB C (upd β n v') { S with H := (n, .row e sz sh (xs ++ zs) k') :: S.H } a w' := by
  have hbo := hb_row hold
  have hbn := hb_row hown
  have hg : w.grownBy w' (β n).v.ownBlock := by
    rcases hw with ⟨_, h1⟩ | ⟨_, h1⟩
    · exact h1
    · exact ⟨h1.os, h1.tape, h1.output, h1.size, fun k hk _ => h1.block k hk (by simp)⟩
  have hsl : ∃ a n' c, (upd β n v' n).v = .slice a n' c := by
    rw [upd_same]
    obtain ⟨a, c, e, _⟩ := owns_shape hown
    exact ⟨a, _, c, e⟩
  have hsl0 : ∃ a n' c, (β n).v = .slice a n' c := by
    obtain ⟨a, c, e, _⟩ := owns_shape hold
    exact ⟨a, _, c, e⟩
  have hH : ∀ m, m ≠ n → look m ((n, Ob.row e sz sh (xs ++ zs) k') :: S.H) = look m S.H := fun m hm => by rw [look_set, if_neg (Ne.symm hm)]
  have hq : ∀ e' sz' sh' xs' k'', look n ((n, Ob.row e sz sh (xs ++ zs) k') :: S.H) = some (.row e' sz' sh' xs' k'') → max (topE S.env) (topO S.H) ≤ k'' := fun e' sz' sh' xs' k'' h1 => by
    rw [look_set, if_pos rfl] at h1
    cases h1
    exact hk
  refine h.turn hl (fun m hm => upd_other β n v' hm) hg.os hg.tape hg.output hg.size (fun q hq hne => hg.block q hq (fun e => hne (by rw [hbo, ← e]))) (fun b hb' => ?_) (fun b o y hb' hm hc => ?_) (fun b o h1 h2 h3 => ?_)
    (fun kp t x v hx hv => RepV.bump kp (fun m hm => upd_other β n v' hm) hsl0 hH hq x v (by have := topE_look hx; omega) hv)
    (fun hm => absurd hm (by simpa using hN))
    (fun kp m cs vs _ hm hv => RepL.bump kp (fun m hm => upd_other β n v' hm) hsl0 hH hq _ vs (by have := topO_look hm; omega) hv) (fun kp => ?_)
  · rw [upd_same, hbn] at hb'
    rcases hw with ⟨h1, _⟩ | ⟨h1, _⟩
    · exact .inl (by rw [hbo, ← h1, hb'])
    · exact .inr (h1 b hb')
  · have ho : o < xs.length * sz := by
      simp only [Ob.mut, not_or, Nat.not_le] at hm
      exact hm.2
    rcases hw with ⟨h1, h2⟩ | ⟨h1, h2⟩
    · have hy := row_cell hold (hbo ▸ hb') ho hc
      have hlt : o < old.length := by rw [hold.1]; exact ho
      have := hown.cells (g := b) (by rw [h1, ← hbo]; exact hb') o y (by rw [List.getElem?_append_left hlt]; exact hy)
      have ha : (⟨b, 0, none⟩ : Addr).add o = ⟨b, o, none⟩ := by unfold Addr.add; split <;> simp_all
      rwa [ha] at this
    · rw [← hc]
      exact World.cell?_of_block (h2.block b (h.old hl (.inl hb')) (by simp))
  · rcases h3 with h3 | h3
    · exact .inl h3
    · refine .inr (Nat.le_trans ?_ h3)
      rw [List.length_append, Nat.add_mul]
      omega
  · rw [upd_same]
    exact ⟨old ++ news, by rw [List.length_append]; exact hown, (RepE.keep kp _ _ _ hxs).append (RepE.keep kp _ _ _ hzs)⟩
end
end Go.Proofs.YtjhbglklcddekaaGreatDoor
