/- Parts: N1, N2, N5, N6. -/
import Derived.Test.YtjhbglklcddekaaGreatDoorP1
set_option linter.all false
set_option maxRecDepth 100000
set_option maxHeartbeats 16000000
namespace Go.Proofs.YtjhbglklcddekaaGreatDoor
open Go.RowKit
section
namespace Nd
def num : List Bool → Nat
  | [] => 0
  | b :: l => (if b then 1 else 0) + 2 * num l
def bitsN : Nat → Nat → List Bool
  | 0, _ => []
  | k + 1, n => (n % 2 == 1) :: bitsN k (n / 2)
theorem bitsN_len : ∀ k n, (bitsN k n).length = k
  | 0, _ => rfl
  | k + 1, n => by simp [bitsN, bitsN_len k]
theorem num_bitsN : ∀ k n, num (bitsN k n) = n % 2 ^ k
  | 0, n => by simp [bitsN, num, Nat.mod_one]
  | k + 1, n => by
    have h1 := num_bitsN k (n / 2)
    have h2 : n % 2 ^ (k + 1) = n % 2 + 2 * (n / 2 % 2 ^ k) := by rw [Nat.pow_succ, Nat.mul_comm, Nat.mod_mul]
    have h3 : n % 2 < 2 := Nat.mod_lt _ (by omega)
    simp only [bitsN, num, h1, h2]
    rcases (by omega : n % 2 = 0 ∨ n % 2 = 1) with h | h <;> simp [h]
theorem num_lt : ∀ l : List Bool, num l < 2 ^ l.length
  | [] => by simp [num]
  | b :: l => by
    have := num_lt l
    rw [List.length_cons, Nat.pow_succ]
    simp only [num]
    split <;> omega
theorem num_app : ∀ l m : List Bool, num (l ++ m) = num l + 2 ^ l.length * num m
  | [], m => by simp [num]
  | b :: l, m => by
    simp only [List.cons_append, num, num_app l m, List.length_cons, Nat.pow_succ]
    rw [Nat.mul_add, Nat.mul_comm (2 ^ l.length) 2, Nat.mul_assoc]
    omega
structure Se where
  tx : List Bool
  ack : Bool
  data : Option UInt8
  rx : List Bool
structure Se.ok (s : Se) : Prop where
  txl : s.tx.length ≤ 10
  last : ∀ h : s.tx ≠ [], s.tx.getLast h = false
  first : s.tx.length = 10 → s.tx.head? = some true
  rxl : s.rx.length ≤ 10
  rx0 : ∀ b, s.rx[0]? = some b → b = true
  rx1 : ∀ b, s.rx[1]? = some b → b = true
def se0 : Se := ⟨[], false, none, []⟩
inductive Heard where
  | none
  | byte (b : UInt8)
  | ack
  | bad
def rest (b : UInt8) : List Bool := true :: (bitsN 8 b.toNat ++ [false])
theorem rest_len (b : UInt8) : (rest b).length = 10 := by simp [rest, bitsN_len]
def Se.next (s : Se) : Se × Bool :=
  match s.tx with
  | b :: t => ({ s with tx := t }, b)
  | [] => if s.ack then ({ s with ack := false, tx := [false] }, true) else match s.data with
    | some b => ({ s with data := none, tx := rest b }, true)
    | none => (s, false)
def Se.hear (s : Se) (bit : Bool) : Se × Heard :=
  match s.rx with
  | [] => if bit then ({ s with rx := [true] }, .none) else (s, .none)
  | [_] => if bit then ({ s with rx := [true, true] }, .none) else ({ s with rx := [] }, .ack)
  | l => if l.length = 10 then (if bit then ({ s with rx := [] }, .bad) else ({ s with rx := [] }, .byte (UInt8.ofNat (num (l.drop 2))))) else ({ s with rx := l ++ [bit] }, .none)
theorem ok0 : se0.ok := ⟨by decide, fun h => absurd rfl h, by decide, by decide, fun b h => by simp [se0] at h, fun b h => by simp [se0] at h⟩
theorem Se.ok.next {s : Se} (h : s.ok) : s.next.1.ok := by
  obtain ⟨tx, ack, data, rx⟩ := s
  obtain ⟨h1, h2, h3, h4, h5, h6⟩ := h
  dsimp only at h1 h2 h3 h4 h5 h6
  unfold Se.next
  dsimp only
  cases tx with
  | cons b t =>
    refine ⟨?_, fun hn => ?_, fun hl => ?_, h4, h5, h6⟩
    · simp only [List.length_cons] at h1
      dsimp only
      omega
    · dsimp only at hn ⊢
      have := h2 (by simp)
      rwa [List.getLast_cons hn] at this
    · simp only [List.length_cons] at h1
      dsimp only at hl
      omega
  | nil =>
    dsimp only
    split
    · exact ⟨by simp, fun _ => by simp, by simp, h4, h5, h6⟩
    · split
      · rename_i b
        refine ⟨by simp [rest_len], fun _ => ?_, fun _ => by simp [rest], h4, h5, h6⟩
        show (true :: (bitsN 8 b.toNat ++ [false])).getLast _ = false
        rw [List.getLast_cons (by simp), List.getLast_append_of_ne_nil (by simp) (by simp)]
        rfl
      · exact ⟨h1, h2, h3, h4, h5, h6⟩
theorem Se.ok.hear {s : Se} (h : s.ok) (bit : Bool) : (s.hear bit).1.ok := by
  obtain ⟨tx, ack, data, rx⟩ := s
  obtain ⟨h1, h2, h3, h4, h5, h6⟩ := h
  dsimp only at h1 h2 h3 h4 h5 h6
  unfold Se.hear
  dsimp only
  match rx, h4, h5, h6 with
  | [], _, _, _ =>
    dsimp only
    split
    · exact ⟨h1, h2, h3, by simp, fun b hb => by simp at hb; exact hb.symm ▸ rfl, fun b hb => by simp at hb⟩
    · exact ⟨h1, h2, h3, by simp, fun b hb => by simp at hb, fun b hb => by simp at hb⟩
  | [x], _, h5, _ =>
    dsimp only
    split
    · exact ⟨h1, h2, h3, by simp, fun b hb => by simp at hb; exact hb.symm ▸ rfl, fun b hb => by simp at hb; exact hb.symm ▸ rfl⟩
    · exact ⟨h1, h2, h3, by simp, fun b hb => by simp at hb, fun b hb => by simp at hb⟩
  | x :: y :: l, h4, h5, h6 =>
    dsimp only
    have e0 := h5 x rfl
    have e1 := h6 y rfl
    subst e0 e1
    simp only [List.length_cons] at h4
    split
    · split
      · exact ⟨h1, h2, h3, by simp, fun b hb => by simp at hb, fun b hb => by simp at hb⟩
      · exact ⟨h1, h2, h3, by simp, fun b hb => by simp at hb, fun b hb => by simp at hb⟩
    · rename_i hl
      simp only [List.length_cons] at hl
      refine ⟨h1, h2, h3, ?_, fun b hb => ?_, fun b hb => ?_⟩
      · simp only [List.length_append, List.length_cons, List.length_nil]
        omega
      · simp at hb; exact hb.symm ▸ rfl
      · simp at hb; exact hb.symm ▸ rfl
theorem byte_back (b : UInt8) : UInt8.ofNat (num (bitsN 8 b.toNat)) = b := by
  rw [num_bitsN]
  apply UInt8.toNat_inj.1
  rw [UInt8.toNat_ofNat']
  have := b.toNat_lt
  omega
end Nd
end
section
namespace Nd
structure Lk where
  wire : Se
  busy : Bool          -- of the output: a byte was sent and not acknowledged
  inb : Option UInt8   -- of the input: a byte has arrived and is not acknowledged
def lk0 : Lk := ⟨se0, false, none⟩
structure NB where
  link : Int
  buf : List UInt8
  out : List UInt8
  mem : List UInt8
  ls : List Lk
  run : Option (Int × Int)
def new (size : Nat) : NB := ⟨-1, [], [], List.replicate size 0, List.replicate 4 lk0, none⟩
def whole : List UInt8 → Nat
  | [] => 1
  | b :: _ => if b = 0 then 9 else if b = 1 then 5 else b.toNat + 1
def num4 (l : List UInt8) : Nat := (l.getD 0 0).toNat + 256 * (l.getD 1 0).toNat + 65536 * (l.getD 2 0).toNat + 16777216 * (l.getD 3 0).toNat
def four (n : Nat) : List UInt8 := [UInt8.ofNat n, UInt8.ofNat (n / 256), UInt8.ofNat (n / 65536), UInt8.ofNat (n / 16777216)]
def index (at' : Nat) : Nat := (at' + 2147483648) % 4294967296
def put (m : List UInt8) (i : Nat) (x : List UInt8) : List UInt8 := m.take i ++ x ++ m.drop (i + x.length)
def setWord (m : List UInt8) (at' v : Nat) : List UInt8 := if index at' < m.length then put m (index at' / 4 * 4) (four v) else m
def wordAt (m : List UInt8) (at' : Nat) : Nat := if index at' < m.length then num4 (m.drop (index at' / 4 * 4)) else 0
def Lk.send (l : Lk) (b : UInt8) : Lk := if l.busy || l.wire.data.isSome then l else { l with wire := { l.wire with data := some b }, busy := true }
def Lk.take (l : Lk) : Option (Lk × UInt8) :=
  match l.inb with
  | none => none
  | some b => if l.wire.ack then none else some ({ l with wire := { l.wire with ack := true }, inb := none }, b)
def NB.at (n : NB) (k : Nat) : Lk := n.ls.getD k lk0
def NB.command (n : NB) : NB :=
  match n.buf with
  | [] => n
  | b :: l =>
    if b = 0 then { n with buf := [], mem := setWord n.mem (num4 l) (num4 (l.drop 4)), link := -1 }
    else if b = 1 then { n with buf := [], out := four (wordAt n.mem (num4 l)) }
    else { n with buf := [], mem := put n.mem 72 l, run := some (-2147483648 + 72 + ((l.length + 3) / 4 * 4 : Nat), -2147483648 + 16 + 4 * n.link) }
def NB.first (n : NB) : Option Nat := n.ls.findIdx? fun l => l.inb.isSome
def NB.step (n : NB) : NB := if n.run.isSome then n else
  match n.out with
  | b :: _ => { n with ls := n.ls.modify n.link.toNat fun l => l.send b }
  | [] =>
    match if n.link < 0 then n.first else some n.link.toNat with
    | none => n
    | some k =>
      match (n.at k).take with
      | none => n
      | some (l, b) =>
        let m := { n with ls := n.ls.set k l, link := k, buf := n.buf ++ [b] }
        if m.buf.length = whole m.buf then m.command else m
def NB.tx (n : NB) (k : Nat) : NB × Bool := ({ n with ls := n.ls.set k { n.at k with wire := (n.at k).wire.next.1 } }, (n.at k).wire.next.2)
def NB.rx (n : NB) (k : Nat) (bit : Bool) : NB :=
  let l := n.at k
  let w := (l.wire.hear bit).1
  match (l.wire.hear bit).2 with
  | .ack => if l.busy then { n with ls := n.ls.set k { l with wire := w, busy := false }, out := n.out.drop 1, link := if n.out.drop 1 = [] then -1 else n.link } else { n with ls := n.ls.set k { l with wire := w } }
  | .byte b => if l.inb.isSome then { n with ls := n.ls.set k { l with wire := w } } else { n with ls := n.ls.set k { l with wire := w, inb := some b } }
  | _ => { n with ls := n.ls.set k { l with wire := w } }
end Nd
end
section
namespace Nd
structure Ho where
  en : Se
  give : List UInt8
  got : List UInt8
  busy : Bool
def Ho.load (h : Ho) : Ho :=
  if h.busy then h else match h.give with
  | b :: g => { h with en := if h.en.data.isSome then se0 else { h.en with data := some b }, give := g, busy := true }
  | [] => h
def Ho.heard (h : Ho) : Heard → Ho
  | .ack => { h with busy := false }
  | .byte b => { h with got := h.got ++ [b], en := if h.en.ack then se0 else { h.en with ack := true } }
  | _ => h
def both (k : Nat) (s : Ho × NB) : Ho × NB :=
  let h := s.1.load
  let n := (s.2.rx k h.en.next.2).step.tx k
  (Ho.heard { h with en := (h.en.next.1.hear n.2).1 } (h.en.next.1.hear n.2).2, n.1)
def run (k : Nat) : Nat → Ho × NB → Ho × NB
  | 0, s => s
  | t + 1, s => run k t (both k s)
theorem run_add (k a b : Nat) (s : Ho × NB) : run k (a + b) s = run k b (run k a s) := by
  induction a generalizing s with
  | zero => rw [Nat.zero_add]; rfl
  | succ a ih => rw [Nat.succ_add]; exact ih _
theorem run_succ (k t : Nat) (s : Ho × NB) : run k (t + 1) s = both k (run k t s) := by rw [run_add]; rfl
def at4 (k : Nat) (l : Lk) : List Lk := (List.replicate 4 lk0).set k l
def idle (k : Nat) (g got : List UInt8) (link : Int) (buf mem : List UInt8) : Ho × NB := (⟨se0, g, got, false⟩, ⟨link, buf, [], mem, at4 k lk0, none⟩)
theorem four_k {k : Nat} (hk : k < 4) : k = 0 ∨ k = 1 ∨ k = 2 ∨ k = 3 := by omega
theorem ten (k : Nat) (hk : k < 4) (b : UInt8) (g got : List UInt8) (link : Int) (buf mem : List UInt8) (hl : link = -1 ∨ link = k) :
    run k 10 (idle k (b :: g) got link buf mem) = (⟨⟨[false], false, none, []⟩, g, got, true⟩, ⟨link, buf, [], mem, at4 k ⟨⟨[], false, none, true :: true :: bitsN 8 b.toNat⟩, false, none⟩, none⟩) := by
  rcases four_k hk with rfl | rfl | rfl | rfl <;> rcases hl with rfl | rfl <;> (refine Eq.trans ?_ (Eq.refl _); kernel_rfl)
def NB.fin (m : NB) : NB := if m.buf.length = whole m.buf then m.command else m
def took (k : Nat) (buf mem : List UInt8) (b : UInt8) : NB := NB.fin ⟨k, buf ++ [b], [], mem, at4 k ⟨⟨[false], false, none, []⟩, false, none⟩, none⟩
theorem NB.command_ls (n : NB) (l : List Lk) : NB.command { n with ls := l } = { n.command with ls := l } := by
  obtain ⟨a1, buf, a3, a4, a5, a6⟩ := n
  unfold NB.command
  dsimp only
  cases buf with
  | nil => rfl
  | cons b t =>
    dsimp only
    split
    · rfl
    · split <;> rfl
theorem NB.fin_ls (n : NB) (l : List Lk) : NB.fin { n with ls := l } = { n.fin with ls := l } := by
  unfold NB.fin
  dsimp only
  split
  · exact NB.command_ls n l
  · rfl
theorem both_eq (k : Nat) {h : Ho} {n n2 n3 : NB} {bit back : Bool} {e2 : Se} (hb : h.busy = true) (h1 : h.en.next = (e2, bit)) (h2 : (n.rx k bit).step = n2) (h3 : n2.tx k = (n3, back)) : both k (h, n) = (Ho.heard { h with en := (e2.hear back).1 } (e2.hear back).2, n3) := by
  unfold both
  have hl : h.load = h := by unfold Ho.load; rw [if_pos hb]
  dsimp only
  rw [hl, h1, h2, h3]
theorem eleven (k : Nat) (hk : k < 4) (b : UInt8) (g got : List UInt8) (link : Int) (buf mem : List UInt8) (hl : link = -1 ∨ link = k) :
    run k 11 (idle k (b :: g) got link buf mem) = (⟨⟨[], false, none, [true]⟩, g, got, true⟩, took k buf mem b) := by
  rw [run_succ, ten k hk b g got link buf mem hl]
  have h1 : ∀ b' : UInt8, both k (⟨⟨[false], false, none, []⟩, g, got, true⟩, ⟨link, buf, [], mem, at4 k ⟨⟨[], false, none, true :: true :: bitsN 8 b.toNat⟩, false, none⟩, none⟩)
      = (⟨⟨[], false, none, [true]⟩, g, got, true⟩, NB.fin ⟨k, buf ++ [UInt8.ofNat (num (bitsN 8 b.toNat))], [], mem, at4 k ⟨⟨[false], false, none, []⟩, false, none⟩, none⟩) := fun _ => by
    have h2 : NB.step (NB.rx ⟨link, buf, [], mem, at4 k ⟨⟨[], false, none, true :: true :: bitsN 8 b.toNat⟩, false, none⟩, none⟩ k false) = NB.fin ⟨k, buf ++ [UInt8.ofNat (num (bitsN 8 b.toNat))], [], mem, at4 k ⟨⟨[], true, none, []⟩, false, none⟩, none⟩ := by
      rcases four_k hk with rfl | rfl | rfl | rfl <;> rcases hl with rfl | rfl <;> (refine Eq.trans ?_ (Eq.refl _); kernel_rfl)
    have h3 : ∀ n : NB, n.ls = at4 k ⟨⟨[], true, none, []⟩, false, none⟩ → n.tx k = ({ n with ls := at4 k ⟨⟨[false], false, none, []⟩, false, none⟩ }, true) := fun n hn => by
      obtain ⟨a1, a2, a3, a4, a5, a6⟩ := n
      dsimp only at hn
      subst hn
      rcases four_k hk with rfl | rfl | rfl | rfl <;> rfl
    have h4 : (NB.fin ⟨k, buf ++ [UInt8.ofNat (num (bitsN 8 b.toNat))], [], mem, at4 k ⟨⟨[], true, none, []⟩, false, none⟩, none⟩).ls = at4 k ⟨⟨[], true, none, []⟩, false, none⟩ := by
      have := NB.fin_ls ⟨k, buf ++ [UInt8.ofNat (num (bitsN 8 b.toNat))], [], mem, at4 k ⟨⟨[], true, none, []⟩, false, none⟩, none⟩ (at4 k ⟨⟨[], true, none, []⟩, false, none⟩)
      rw [this]
    have h5 := NB.fin_ls ⟨k, buf ++ [UInt8.ofNat (num (bitsN 8 b.toNat))], [], mem, at4 k ⟨⟨[], true, none, []⟩, false, none⟩, none⟩ (at4 k ⟨⟨[false], false, none, []⟩, false, none⟩)
    dsimp only at h5
    rw [both_eq k rfl rfl h2 (h3 _ h4), h5]
    rfl
  rw [h1 b, byte_back]
  rfl
theorem twelve (k : Nat) (hk : k < 4) (g got : List UInt8) (link : Int) (buf mem : List UInt8) (hl : link = -1 ∨ link = k) :
    both k (⟨⟨[], false, none, [true]⟩, g, got, true⟩, ⟨link, buf, [], mem, at4 k ⟨⟨[false], false, none, []⟩, false, none⟩, none⟩) = idle k g got link buf mem := by
  rcases four_k hk with rfl | rfl | rfl | rfl <;> rcases hl with rfl | rfl <;> (refine Eq.trans ?_ (Eq.refl _); kernel_rfl)
theorem twelve_out (k : Nat) (hk : k < 4) (g got : List UInt8) (buf mem : List UInt8) (v : UInt8) (out : List UInt8) :
    both k (⟨⟨[], false, none, [true]⟩, g, got, true⟩, ⟨k, buf, v :: out, mem, at4 k ⟨⟨[false], false, none, []⟩, false, none⟩, none⟩) = (⟨se0, g, got, false⟩, ⟨k, buf, v :: out, mem, at4 k ⟨⟨[], false, some v, []⟩, true, none⟩, none⟩) := by
  rcases four_k hk with rfl | rfl | rfl | rfl <;> (refine Eq.trans ?_ (Eq.refl _); kernel_rfl)
theorem peek1 (k : Nat) (hk : k < 4) (b v0 v1 v2 v3 : UInt8) (g got mem : List UInt8) :
    run k 48 (⟨se0, b :: g, got, false⟩, ⟨k, [], [v0, v1, v2, v3], mem, at4 k ⟨⟨[], false, some v0, []⟩, true, none⟩, none⟩)
      = (⟨⟨[false], false, none, []⟩, g, got ++ [UInt8.ofNat (num (bitsN 8 v0.toNat))] ++ [UInt8.ofNat (num (bitsN 8 v1.toNat))] ++ [UInt8.ofNat (num (bitsN 8 v2.toNat))] ++ [UInt8.ofNat (num (bitsN 8 v3.toNat))], true⟩,
        ⟨k, [], [v3], mem, at4 k ⟨⟨[], false, none, [true]⟩, true, some (UInt8.ofNat (num (bitsN 8 b.toNat)))⟩, none⟩) := by
  rcases four_k hk with rfl | rfl | rfl | rfl <;> (refine Eq.trans ?_ (Eq.refl _); kernel_rfl)
theorem peek2 (k : Nat) (hk : k < 4) (b v : UInt8) (g got mem : List UInt8) :
    both k (⟨⟨[false], false, none, []⟩, g, got, true⟩, ⟨k, [], [v], mem, at4 k ⟨⟨[], false, none, [true]⟩, true, some b⟩, none⟩)
      = (⟨⟨[], false, none, [true]⟩, g, got, true⟩, ⟨k, [b], [], mem, at4 k ⟨⟨[false], false, none, []⟩, false, none⟩, none⟩) := by
  have hw : ¬ ([b] : List UInt8).length = whole [b] := by
    simp only [whole, List.length_cons, List.length_nil]
    split
    · omega
    · split
      · omega
      · rename_i h0 _
        have : b.toNat ≠ 0 := fun h => h0 (UInt8.toNat_inj.1 h)
        omega
  have hf : NB.fin ⟨k, [b], [], mem, at4 k ⟨⟨[], true, none, []⟩, false, none⟩, none⟩ = ⟨k, [b], [], mem, at4 k ⟨⟨[], true, none, []⟩, false, none⟩, none⟩ := if_neg hw
  have h2 : NB.step (NB.rx ⟨k, [], [v], mem, at4 k ⟨⟨[], false, none, [true]⟩, true, some b⟩, none⟩ k false) = NB.fin ⟨k, [b], [], mem, at4 k ⟨⟨[], true, none, []⟩, false, none⟩, none⟩ := by
    rcases four_k hk with rfl | rfl | rfl | rfl <;> (refine Eq.trans ?_ (Eq.refl _); kernel_rfl)
  rw [hf] at h2
  have h3 : NB.tx ⟨k, [b], [], mem, at4 k ⟨⟨[], true, none, []⟩, false, none⟩, none⟩ k = (⟨k, [b], [], mem, at4 k ⟨⟨[false], false, none, []⟩, false, none⟩, none⟩, true) := by
    rcases four_k hk with rfl | rfl | rfl | rfl <;> rfl
  rw [both_eq k rfl rfl h2 h3]
  rfl
theorem peeked (k : Nat) (hk : k < 4) (b v0 v1 v2 v3 : UInt8) (g got mem : List UInt8) :
    run k 50 (⟨se0, b :: g, got, false⟩, ⟨k, [], [v0, v1, v2, v3], mem, at4 k ⟨⟨[], false, some v0, []⟩, true, none⟩, none⟩) = idle k g (got ++ [v0, v1, v2, v3]) k [b] mem := by
  rw [run_succ, run_succ, peek1 k hk, byte_back, byte_back, byte_back, byte_back, byte_back, peek2 k hk, twelve k hk _ _ _ _ _ (.inr rfl)]
  simp
end Nd
end
section
namespace Nd
theorem run_keeps (k : Nat) (s : Ho × NB) (h : s.2.run.isSome = true) : (both k s).2.run.isSome = true := by
  obtain ⟨h0, n⟩ := s
  unfold both
  dsimp only at h ⊢
  have h1 : ∀ (n : NB) b, (n.rx k b).run = n.run := fun n b => by
    unfold NB.rx
    dsimp only
    split
    · split <;> rfl
    · split <;> rfl
    · rfl
  have h2 : ∀ n : NB, (n.tx k).1.run = n.run := fun n => rfl
  rw [h2]
  have h3 : (n.rx k h0.load.en.next.2).run.isSome = true := by rw [h1]; exact h
  generalize n.rx k h0.load.en.next.2 = m at h3 ⊢
  unfold NB.step
  rw [if_pos h3]
  exact h3
theorem run_none {k t : Nat} {s : Ho × NB} : ∀ {T : Nat}, (run k T s).2.run = none → t ≤ T → (run k t s).2.run = none
  | 0, h, ht => by obtain rfl : t = 0 := by omega
                   exact h
  | T + 1, h, ht => by
    rcases Nat.lt_or_ge t (T + 1) with h1 | h1
    · refine run_none (T := T) ?_ (by omega)
      rw [run_succ] at h
      cases h2 : (run k T s).2.run with
      | none => rfl
      | some x =>
        have := run_keeps k (run k T s) (by rw [h2]; rfl)
        rw [h] at this
        cases this
    · obtain rfl : t = T + 1 := by omega
      exact h
theorem run_app {k a b : Nat} {s s' s'' : Ho × NB} (h : run k a s = s') (h' : run k b s' = s'') : run k (a + b) s = s'' := by rw [run_add, h, h']
theorem whole_app (x : UInt8) (a b : List UInt8) : whole (x :: a) = whole (x :: b) := rfl
theorem byte_in {k : Nat} (hk : k < 4) (b : UInt8) (g got : List UInt8) (link : Int) (buf mem : List UInt8) (hl : link = -1 ∨ link = k) (h : (buf ++ [b]).length ≠ whole (buf ++ [b])) :
    run k 12 (idle k (b :: g) got link buf mem) = idle k g got k (buf ++ [b]) mem := by
  have h1 := eleven k hk b g got link buf mem hl
  unfold took NB.fin at h1
  rw [if_neg h] at h1
  rw [run_succ, h1, twelve k hk _ _ _ _ _ (.inr rfl)]
theorem bytes_in {k : Nat} (hk : k < 4) (x : UInt8) : ∀ (bs : List UInt8) (t : List UInt8) (g got mem : List UInt8), (x :: t ++ bs).length < whole [x] →
    run k (12 * bs.length) (idle k (bs ++ g) got k (x :: t) mem) = idle k g got k (x :: t ++ bs) mem
  | [], t, g, got, mem, _ => by simp [run]
  | b :: bs, t, g, got, mem, h => by
    have h1 := byte_in hk b (bs ++ g) got k (x :: t) mem (.inr rfl) (by
      rw [show whole (x :: t ++ [b]) = whole [x] from rfl]
      simp only [List.length_append, List.length_cons, List.length_nil] at h ⊢
      omega)
    have h2 := bytes_in hk x bs (t ++ [b]) g got mem (by simpa [List.append_assoc] using h)
    have h3 := run_app h1 h2
    rw [show 12 * (b :: bs).length = 12 + 12 * bs.length by simp only [List.length_cons]; omega]
    simpa [List.append_assoc] using h3
theorem four_len (n : Nat) : (four n).length = 4 := rfl
theorem byte_lt (n : Nat) : (UInt8.ofNat n).toNat = n % 256 := by rw [UInt8.toNat_ofNat']
theorem num4_four (n : Nat) (hn : n < 4294967296) (r : List UInt8) : num4 (four n ++ r) = n := by
  simp only [num4, four, List.cons_append, List.getD_cons_zero, List.getD_cons_succ, List.nil_append, byte_lt]
  omega
def pokeB (a v : Nat) : List UInt8 := four a ++ four v
theorem poke {k : Nat} (hk : k < 4) (a v : Nat) (ha : a < 4294967296) (hv : v < 4294967296) (g got mem : List UInt8) :
    run k 96 (idle k (four a ++ (four v ++ g)) got k [0] mem) = idle k g got (-1) [] (setWord mem a v) := by
  have h1 := bytes_in hk 0 (four a ++ [UInt8.ofNat v, UInt8.ofNat (v / 256), UInt8.ofNat (v / 65536)]) [] ([UInt8.ofNat (v / 16777216)] ++ g) got mem (by show (8 : Nat) < 9; omega)
  have h2 := eleven k hk (UInt8.ofNat (v / 16777216)) g got k (0 :: [] ++ (four a ++ [UInt8.ofNat v, UInt8.ofNat (v / 256), UInt8.ofNat (v / 65536)])) mem (.inr rfl)
  have e1 : took k (0 :: [] ++ (four a ++ [UInt8.ofNat v, UInt8.ofNat (v / 256), UInt8.ofNat (v / 65536)])) mem (UInt8.ofNat (v / 16777216)) = ⟨-1, [], [], setWord mem a v, at4 k ⟨⟨[false], false, none, []⟩, false, none⟩, none⟩ := by
    unfold took NB.fin
    rw [show (0 :: [] ++ (four a ++ [UInt8.ofNat v, UInt8.ofNat (v / 256), UInt8.ofNat (v / 65536)]) ++ [UInt8.ofNat (v / 16777216)] : List UInt8) = 0 :: (four a ++ four v) from rfl]
    rw [if_pos (by rfl)]
    unfold NB.command
    dsimp only
    rw [if_pos rfl, num4_four a ha, show (four a ++ four v).drop 4 = four v ++ [] from rfl, num4_four v hv]
  rw [e1] at h2
  have h3 := run_app h1 h2
  have h4 := run_app h3 (show run k 1 _ = _ from twelve k hk g got (-1) [] (setWord mem a v) (.inl rfl))
  exact h4
theorem peekw {k : Nat} (hk : k < 4) (a : Nat) (ha : a < 4294967296) (b : UInt8) (g got mem : List UInt8) :
    run k 110 (idle k (1 :: (four a ++ b :: g)) got (-1) [] mem) = idle k g (got ++ four (wordAt mem a)) k [b] mem := by
  have h0 := byte_in hk 1 (four a ++ b :: g) got (-1) [] mem (.inl rfl) (by decide)
  have h1 := bytes_in hk 1 [UInt8.ofNat a, UInt8.ofNat (a / 256), UInt8.ofNat (a / 65536)] [] ([UInt8.ofNat (a / 16777216)] ++ b :: g) got mem (by show (4 : Nat) < 5; omega)
  have h2 := eleven k hk (UInt8.ofNat (a / 16777216)) (b :: g) got k (1 :: [] ++ [UInt8.ofNat a, UInt8.ofNat (a / 256), UInt8.ofNat (a / 65536)]) mem (.inr rfl)
  have e1 : took k (1 :: [] ++ [UInt8.ofNat a, UInt8.ofNat (a / 256), UInt8.ofNat (a / 65536)]) mem (UInt8.ofNat (a / 16777216)) = ⟨k, [], four (wordAt mem a), mem, at4 k ⟨⟨[false], false, none, []⟩, false, none⟩, none⟩ := by
    unfold took NB.fin
    rw [show (1 :: [] ++ [UInt8.ofNat a, UInt8.ofNat (a / 256), UInt8.ofNat (a / 65536)] ++ [UInt8.ofNat (a / 16777216)] : List UInt8) = 1 :: four a from rfl]
    rw [if_pos (by rfl)]
    unfold NB.command
    dsimp only
    rw [if_neg (by decide), if_pos rfl, show four a = four a ++ [] from rfl, num4_four a ha]
  rw [e1] at h2
  have h3 := run_app (run_app h0 h1) h2
  have h4 := run_app h3 (show run k 1 _ = _ from twelve_out k hk (b :: g) got [] mem (UInt8.ofNat (wordAt mem a)) _)
  have h5 := run_app h4 (peeked k hk b _ _ _ _ g got mem)
  exact h5
def wordB (x : Nat × Nat) : List UInt8 := 0 :: (four x.1 ++ four x.2) ++ 1 :: four x.1
def memW (m : List UInt8) (l : List (Nat × Nat)) : List UInt8 := l.foldl (fun m x => setWord m x.1 x.2) m
def wantW : List UInt8 → List (Nat × Nat) → List UInt8
  | _, [] => []
  | m, x :: l => four (wordAt (setWord m x.1 x.2) x.1) ++ wantW (setWord m x.1 x.2) l
def okW (l : List (Nat × Nat)) : Prop := ∀ x ∈ l, x.1 < 4294967296 ∧ x.2 < 4294967296
theorem words {k : Nat} (hk : k < 4) (b : UInt8) (g : List UInt8) : ∀ (l : List (Nat × Nat)) (got mem : List UInt8) (y : UInt8) (r : List UInt8), okW l → l.flatMap wordB ++ b :: g = y :: r →
    run k (206 * l.length) (idle k r got k [y] mem) = idle k g (got ++ wantW mem l) k [b] (memW mem l)
  | [], got, mem, y, r, _, h => by
    simp only [List.flatMap_nil, List.nil_append, List.cons.injEq] at h
    obtain ⟨rfl, rfl⟩ := h
    simp [run, wantW, memW]
  | x :: l, got, mem, y, r, ho, h => by
    obtain ⟨y', r', hy⟩ : ∃ y' r', l.flatMap wordB ++ b :: g = y' :: r' := by
      cases hl : l.flatMap wordB with
      | nil => exact ⟨_, _, rfl⟩
      | cons a t => exact ⟨_, _, rfl⟩
    rw [List.flatMap_cons, List.append_assoc, hy] at h
    simp only [wordB, List.cons_append, List.append_assoc, List.cons.injEq] at h
    obtain ⟨rfl, rfl⟩ := h
    have h1 := poke hk x.1 x.2 (ho x List.mem_cons_self).1 (ho x List.mem_cons_self).2 (1 :: (four x.1 ++ y' :: r')) got mem
    have h2 := peekw hk x.1 (ho x List.mem_cons_self).1 y' r' got (setWord mem x.1 x.2)
    have h3 := words hk b g l (got ++ four (wordAt (setWord mem x.1 x.2) x.1)) (setWord mem x.1 x.2) y' r' (fun z hz => ho z (List.mem_cons_of_mem _ hz)) hy
    have h4 := run_app (run_app h1 h2) h3
    rw [show 206 * (x :: l).length = 96 + 110 + 206 * l.length by simp only [List.length_cons]; omega, h4]
    simp [wantW, memW, List.append_assoc]
theorem code_in {k : Nat} (hk : k < 4) (code : List UInt8) (h2 : 2 ≤ code.length) (h3 : code.length ≤ 255) (got mem : List UInt8) :
    ∃ s, run k (12 * (code.length - 1) + 10) (idle k code got k [UInt8.ofNat code.length] mem) = s ∧ s.2.run = none ∧ (both k s).1.got = got ∧
      (both k s).2 = ⟨k, [], [], put mem 72 code, at4 k ⟨⟨[false], false, none, []⟩, false, none⟩, some (-2147483648 + 72 + ((code.length + 3) / 4 * 4 : Nat), -2147483648 + 16 + 4 * (k : Int))⟩ := by
  obtain ⟨bs, b, rfl⟩ : ∃ bs b, code = bs ++ [b] := ⟨code.dropLast, code.getLast (by intro h; rw [h] at h2; simp at h2), (List.dropLast_concat_getLast _).symm⟩
  have hl : (bs ++ [b]).length = bs.length + 1 := by simp
  have hx : (UInt8.ofNat (bs ++ [b]).length).toNat = (bs ++ [b]).length := by rw [byte_lt]; omega
  obtain ⟨x, hx'⟩ : ∃ x, x = UInt8.ofNat (bs ++ [b]).length := ⟨_, rfl⟩
  rw [← hx'] at hx ⊢
  have h0 : ¬ x = 0 := fun h => by rw [h] at hx; simp at hx
  have h1 : ¬ x = 1 := fun h => by
    rw [h] at hx
    have : (1 : UInt8).toNat = 1 := rfl
    omega
  have hw : whole [x] = x.toNat + 1 := by
    show (if x = 0 then 9 else if x = 1 then 5 else x.toNat + 1) = _
    rw [if_neg h0, if_neg h1]
  have q1 := bytes_in hk x bs [] [b] got mem (by rw [hw, hx, hl]; simp)
  have q2 := ten k hk b [] got k (x :: [] ++ bs) mem (.inr rfl)
  have q3 := run_app q1 q2
  have q4 := eleven k hk b [] got k (x :: [] ++ bs) mem (.inr rfl)
  rw [run_succ, q2] at q4
  have hlen : (bs ++ [b]).length - 1 = bs.length := by omega
  rw [hlen]
  refine ⟨_, q3, rfl, ?_⟩
  have e1 : took k (x :: [] ++ bs) mem b = ⟨k, [], [], put mem 72 (bs ++ [b]), at4 k ⟨⟨[false], false, none, []⟩, false, none⟩, some (-2147483648 + 72 + (((bs ++ [b]).length + 3) / 4 * 4 : Nat), -2147483648 + 16 + 4 * (k : Int))⟩ := by
    unfold took NB.fin
    rw [if_pos (by rw [show whole (x :: [] ++ bs ++ [b]) = whole [x] from rfl, hw, hx]; simp)]
    unfold NB.command
    dsimp only [List.cons_append, List.nil_append]
    rw [if_neg h0, if_neg h1]
  rw [q4, e1]
  exact ⟨rfl, rfl⟩
theorem boots {k : Nat} (hk : k < 4) (l : List (Nat × Nat)) (ho : okW l) (code : List UInt8) (h2 : 2 ≤ code.length) (h3 : code.length ≤ 255) :
    ∃ T s, T + 1 ≤ 40 * (code.length + 20 * l.length + 10) ∧ run k T (⟨se0, l.flatMap wordB ++ UInt8.ofNat code.length :: code, [], false⟩, new 1024) = s ∧ s.2.run = none ∧ (both k s).1.got = wantW (List.replicate 1024 0) l ∧
      (both k s).2 = ⟨k, [], [], put (memW (List.replicate 1024 0) l) 72 code, at4 k ⟨⟨[false], false, none, []⟩, false, none⟩, some (-2147483648 + 72 + ((code.length + 3) / 4 * 4 : Nat), -2147483648 + 16 + 4 * (k : Int))⟩ := by
  obtain ⟨y, r, hy⟩ : ∃ y r, l.flatMap wordB ++ UInt8.ofNat code.length :: code = y :: r := by
    cases hl : l.flatMap wordB with
    | nil => exact ⟨_, _, rfl⟩
    | cons a t => exact ⟨_, _, rfl⟩
  have hs0 : ((⟨se0, y :: r, [], false⟩, new 1024) : Ho × NB) = idle k (y :: r) [] (-1) [] (List.replicate 1024 0) := by
    unfold idle new
    rcases four_k hk with rfl | rfl | rfl | rfl <;> rfl
  have q0 := byte_in hk y r [] (-1) [] (List.replicate 1024 0) (.inl rfl) (by
    show ¬ ([y] : List UInt8).length = whole [y]
    simp only [whole, List.length_cons, List.length_nil]
    split
    · omega
    · split
      · omega
      · rename_i h0 _
        have : y.toNat ≠ 0 := fun h => h0 (UInt8.toNat_inj.1 h)
        omega)
  have q1 := words hk (UInt8.ofNat code.length) code l [] (List.replicate 1024 0) y r ho hy
  obtain ⟨s, q2, q3, q4, q5⟩ := code_in hk code h2 h3 ([] ++ wantW (List.replicate 1024 0) l) (memW (List.replicate 1024 0) l)
  refine ⟨12 + 206 * l.length + (12 * (code.length - 1) + 10), s, by omega, ?_, q3, by rw [q4, List.nil_append], q5⟩
  rw [hy, hs0]
  exact run_app (run_app q0 q1) q2
end Nd
end
end Go.Proofs.YtjhbglklcddekaaGreatDoor
