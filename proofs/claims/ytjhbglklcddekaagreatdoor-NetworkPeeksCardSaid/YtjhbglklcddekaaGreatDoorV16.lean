/- Parts: N1, N2, N5, N6. -/
import Derived.Test.YtjhbglklcddekaaGreatDoorV1
set_option linter.all false
set_option maxRecDepth 100000
set_option maxHeartbeats 16000000
namespace Go.Proofs.YtjhbglklcddekaaGreatDoor
open Go.RowKit
section
namespace Nd
def num : List Bool → Nat
  | [] => 0
  | b :: l => (if b then 1 else 0) + 2 * num l
def bitsN : Nat → Nat → List Bool
  | 0, _ => []
  | k + 1, n => (n % 2 == 1) :: bitsN k (n / 2)
theorem bitsN_len : ∀ k n, (bitsN k n).length = k
  | 0, _ => rfl
  | k + 1, n => by simp [bitsN, bitsN_len k]
theorem num_bitsN : ∀ k n, num (bitsN k n) = n % 2 ^ k
  | 0, n => by simp [bitsN, num, Nat.mod_one]
  | k + 1, n => by
    have h1 := num_bitsN k (n / 2)
    have h2 : n % 2 ^ (k + 1) = n % 2 + 2 * (n / 2 % 2 ^ k) := by rw [Nat.pow_succ, Nat.mul_comm, Nat.mod_mul]
    have h3 : n % 2 < 2 := Nat.mod_lt _ (by omega)
    simp only [bitsN, num, h1, h2]
    rcases (by omega : n % 2 = 0 ∨ n % 2 = 1) with h | h <;> simp [h]
theorem num_lt : ∀ l : List Bool, num l < 2 ^ l.length
  | [] => by simp [num]
  | b :: l => by
    have := num_lt l
    rw [List.length_cons, Nat.pow_succ]
    simp only [num]
    split <;> omega
theorem num_app : ∀ l m : List Bool, num (l ++ m) = num l + 2 ^ l.length * num m
  | [], m => by simp [num]
  | b :: l, m => by
    simp only [List.cons_append, num, num_app l m, List.length_cons, Nat.pow_succ]
    rw [Nat.mul_add, Nat.mul_comm (2 ^ l.length) 2, Nat.mul_assoc]
    omega
structure Se where
  tx : List Bool
  ack : Bool
  data : Option UInt8
  rx : List Bool
structure Se.ok (s : Se) : Prop where
  txl : s.tx.length ≤ 10
  last : ∀ h : s.tx ≠ [], s.tx.getLast h = false
  first : s.tx.length = 10 → s.tx.head? = some true
  rxl : s.rx.length ≤ 10
  rx0 : ∀ b, s.rx[0]? = some b → b = true
  rx1 : ∀ b, s.rx[1]? = some b → b = true
def se0 : Se := ⟨[], false, none, []⟩
inductive Heard where
  | none
  | byte (b : UInt8)
  | ack
  | bad
def rest (b : UInt8) : List Bool := true :: (bitsN 8 b.toNat ++ [false])
theorem rest_len (b : UInt8) : (rest b).length = 10 := by simp [rest, bitsN_len]
def Se.next (s : Se) : Se × Bool :=
  match s.tx with
  | b :: t => ({ s with tx := t }, b)
  | [] => if s.ack then ({ s with ack := false, tx := [false] }, true) else match s.data with
    | some b => ({ s with data := none, tx := rest b }, true)
    | none => (s, false)
def Se.hear (s : Se) (bit : Bool) : Se × Heard :=
  match s.rx with
  | [] => if bit then ({ s with rx := [true] }, .none) else (s, .none)
  | [_] => if bit then ({ s with rx := [true, true] }, .none) else ({ s with rx := [] }, .ack)
  | l => if l.length = 10 then (if bit then ({ s with rx := [] }, .bad) else ({ s with rx := [] }, .byte (UInt8.ofNat (num (l.drop 2))))) else ({ s with rx := l ++ [bit] }, .none)
theorem ok0 : se0.ok := ⟨by decide, fun h => absurd rfl h, by decide, by decide, fun b h => by simp [se0] at h, fun b h => by simp [se0] at h⟩
theorem Se.ok.next {s : Se} (h : s.ok) : s.next.1.ok := by
  obtain ⟨tx, ack, data, rx⟩ := s
  obtain ⟨h1, h2, h3, h4, h5, h6⟩ := h
  dsimp only at h1 h2 h3 h4 h5 h6
  unfold Se.next
  dsimp only
  cases tx with
  | cons b t =>
    refine ⟨?_, fun hn => ?_, fun hl => ?_, h4, h5, h6⟩
    · simp only [List.length_cons] at h1
      dsimp only
      omega
    · dsimp only at hn ⊢
      have := h2 (by simp)
      rwa [List.getLast_cons hn] at this
    · simp only [List.length_cons] at h1
      dsimp only at hl
      omega
  | nil =>
    dsimp only
    split
    · exact ⟨by simp, fun _ => by simp, by simp, h4, h5, h6⟩
    · split
      · rename_i b
        refine ⟨by simp [rest_len], fun _ => ?_, fun _ => by simp [rest], h4, h5, h6⟩
        show (true :: (bitsN 8 b.toNat ++ [false])).getLast _ = false
        rw [List.getLast_cons (by simp), List.getLast_append_of_ne_nil (by simp) (by simp)]
        rfl
      · exact ⟨h1, h2, h3, h4, h5, h6⟩
theorem Se.ok.hear {s : Se} (h : s.ok) (bit : Bool) : (s.hear bit).1.ok := by
  obtain ⟨tx, ack, data, rx⟩ := s
  obtain ⟨h1, h2, h3, h4, h5, h6⟩ := h
  dsimp only at h1 h2 h3 h4 h5 h6
  unfold Se.hear
  dsimp only
  match rx, h4, h5, h6 with
  | [], _, _, _ =>
    dsimp only
    split
    · exact ⟨h1, h2, h3, by simp, fun b hb => by simp at hb; exact hb.symm ▸ rfl, fun b hb => by simp at hb⟩
    · exact ⟨h1, h2, h3, by simp, fun b hb => by simp at hb, fun b hb => by simp at hb⟩
  | [x], _, h5, _ =>
    dsimp only
    split
    · exact ⟨h1, h2, h3, by simp, fun b hb => by simp at hb; exact hb.symm ▸ rfl, fun b hb => by simp at hb; exact hb.symm ▸ rfl⟩
    · exact ⟨h1, h2, h3, by simp, fun b hb => by simp at hb, fun b hb => by simp at hb⟩
  | x :: y :: l, h4, h5, h6 =>
    dsimp only
    have e0 := h5 x rfl
    have e1 := h6 y rfl
    subst e0 e1
    simp only [List.length_cons] at h4
    split
    · split
      · exact ⟨h1, h2, h3, by simp, fun b hb => by simp at hb, fun b hb => by simp at hb⟩
      · exact ⟨h1, h2, h3, by simp, fun b hb => by simp at hb, fun b hb => by simp at hb⟩
    · rename_i hl
      simp only [List.length_cons] at hl
      refine ⟨h1, h2, h3, ?_, fun b hb => ?_, fun b hb => ?_⟩
      · simp only [List.length_append, List.length_cons, List.length_nil]
        omega
      · simp at hb; exact hb.symm ▸ rfl
      · simp at hb; exact hb.symm ▸ rfl
theorem byte_back (b : UInt8) : UInt8.ofNat (num (bitsN 8 b.toNat)) = b := by
  rw [num_bitsN]
  apply UInt8.toNat_inj.1
  rw [UInt8.toNat_ofNat']
  have := b.toNat_lt
  omega
end Nd
end
section
namespace Nd
structure Lk where
  wire : Se
  busy : Bool          -- of the output: a byte was sent and not acknowledged
  inb : Option UInt8   -- of the input: a byte has arrived and is not acknowledged
def lk0 : Lk := ⟨se0, false, none⟩
structure NB where
  link : Int
  buf : List UInt8
  out : List UInt8
  mem : List UInt8
  ls : List Lk
  run : Option (Int × Int)
def new (size : Nat) : NB := ⟨-1, [], [], List.replicate size 0, List.replicate 4 lk0, none⟩
def whole : List UInt8 → Nat
  | [] => 1
  | b :: _ => if b = 0 then 9 else if b = 1 then 5 else b.toNat + 1
def num4 (l : List UInt8) : Nat := (l.getD 0 0).toNat + 256 * (l.getD 1 0).toNat + 65536 * (l.getD 2 0).toNat + 16777216 * (l.getD 3 0).toNat
def four (n : Nat) : List UInt8 := [UInt8.ofNat n, UInt8.ofNat (n / 256), UInt8.ofNat (n / 65536), UInt8.ofNat (n / 16777216)]
def index (at' : Nat) : Nat := (at' + 2147483648) % 4294967296
def put (m : List UInt8) (i : Nat) (x : List UInt8) : List UInt8 := m.take i ++ x ++ m.drop (i + x.length)
def setWord (m : List UInt8) (at' v : Nat) : List UInt8 := if index at' < m.length then put m (index at' / 4 * 4) (four v) else m
def wordAt (m : List UInt8) (at' : Nat) : Nat := if index at' < m.length then num4 (m.drop (index at' / 4 * 4)) else 0
def Lk.send (l : Lk) (b : UInt8) : Lk := if l.busy || l.wire.data.isSome then l else { l with wire := { l.wire with data := some b }, busy := true }
def Lk.take (l : Lk) : Option (Lk × UInt8) :=
  match l.inb with
  | none => none
  | some b => if l.wire.ack then none else some ({ l with wire := { l.wire with ack := true }, inb := none }, b)
def NB.at (n : NB) (k : Nat) : Lk := n.ls.getD k lk0
def NB.command (n : NB) : NB :=
  match n.buf with
  | [] => n
  | b :: l =>
    if b = 0 then { n with buf := [], mem := setWord n.mem (num4 l) (num4 (l.drop 4)), link := -1 }
    else if b = 1 then { n with buf := [], out := four (wordAt n.mem (num4 l)) }
    else { n with buf := [], mem := put n.mem 72 l, run := some (-2147483648 + 72 + ((l.length + 3) / 4 * 4 : Nat), -2147483648 + 16 + 4 * n.link) }
def NB.first (n : NB) : Option Nat := n.ls.findIdx? fun l => l.inb.isSome
def NB.step (n : NB) : NB := if n.run.isSome then n else
  match n.out with
  | b :: _ => { n with ls := n.ls.modify n.link.toNat fun l => l.send b }
  | [] =>
    match if n.link < 0 then n.first else some n.link.toNat with
    | none => n
    | some k =>
      match (n.at k).take with
      | none => n
      | some (l, b) =>
        let m := { n with ls := n.ls.set k l, link := k, buf := n.buf ++ [b] }
        if m.buf.length = whole m.buf then m.command else m
def NB.tx (n : NB) (k : Nat) : NB × Bool := ({ n with ls := n.ls.set k { n.at k with wire := (n.at k).wire.next.1 } }, (n.at k).wire.next.2)
def NB.rx (n : NB) (k : Nat) (bit : Bool) : NB :=
  let l := n.at k
  let w := (l.wire.hear bit).1
  match (l.wire.hear bit).2 with
  | .ack => if l.busy then { n with ls := n.ls.set k { l with wire := w, busy := false }, out := n.out.drop 1, link := if n.out.drop 1 = [] then -1 else n.link } else { n with ls := n.ls.set k { l with wire := w } }
  | .byte b => if l.inb.isSome then { n with ls := n.ls.set k { l with wire := w } } else { n with ls := n.ls.set k { l with wire := w, inb := some b } }
  | _ => { n with ls := n.ls.set k { l with wire := w } }
end Nd
end
section
namespace Nd
structure Ho where
  en : Se
  give : List UInt8
  got : List UInt8
  busy : Bool
def Ho.load (h : Ho) : Ho :=
  if h.busy then h else match h.give with
  | b :: g => { h with en := if h.en.data.isSome then se0 else { h.en with data := some b }, give := g, busy := true }
  | [] => h
def Ho.heard (h : Ho) : Heard → Ho
  | .ack => { h with busy := false }
  | .byte b => { h with got := h.got ++ [b], en := if h.en.ack then se0 else { h.en with ack := true } }
  | _ => h
def both (k : Nat) (s : Ho × NB) : Ho × NB :=
  let h := s.1.load
  let n := (s.2.rx k h.en.next.2).step.tx k
  (Ho.heard { h with en := (h.en.next.1.hear n.2).1 } (h.en.next.1.hear n.2).2, n.1)
def run (k : Nat) : Nat → Ho × NB → Ho × NB
  | 0, s => s
  | t + 1, s => run k t (both k s)
def at4 (k : Nat) (l : Lk) : List Lk := (List.replicate 4 lk0).set k l
theorem four_k {k : Nat} (hk : k < 4) : k = 0 ∨ k = 1 ∨ k = 2 ∨ k = 3 := by omega
def NB.fin (m : NB) : NB := if m.buf.length = whole m.buf then m.command else m
end Nd
end
section
namespace Nd
theorem four_len (n : Nat) : (four n).length = 4 := rfl
theorem byte_lt (n : Nat) : (UInt8.ofNat n).toNat = n % 256 := by rw [UInt8.toNat_ofNat']
theorem num4_four (n : Nat) (hn : n < 4294967296) (r : List UInt8) : num4 (four n ++ r) = n := by
  simp only [num4, four, List.cons_append, List.getD_cons_zero, List.getD_cons_succ, List.nil_append, byte_lt]
  omega
def wordB (x : Nat × Nat) : List UInt8 := 0 :: (four x.1 ++ four x.2) ++ 1 :: four x.1
def memW (m : List UInt8) (l : List (Nat × Nat)) : List UInt8 := l.foldl (fun m x => setWord m x.1 x.2) m
def wantW : List UInt8 → List (Nat × Nat) → List UInt8
  | _, [] => []
  | m, x :: l => four (wordAt (setWord m x.1 x.2) x.1) ++ wantW (setWord m x.1 x.2) l
def okW (l : List (Nat × Nat)) : Prop := ∀ x ∈ l, x.1 < 4294967296 ∧ x.2 < 4294967296
end Nd
end
end Go.Proofs.YtjhbglklcddekaaGreatDoor
