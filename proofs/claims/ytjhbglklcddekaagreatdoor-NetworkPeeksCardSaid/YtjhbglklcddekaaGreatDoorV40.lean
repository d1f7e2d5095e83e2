/- Parts: NP1, NP2, NP3. -/
import Derived.Test.YtjhbglklcddekaaGreatDoorV32
import Derived.Test.YtjhbglklcddekaaGreatDoorV31
set_option linter.all false
set_option maxRecDepth 100000
set_option maxHeartbeats 16000000
namespace Go.Proofs.YtjhbglklcddekaaGreatDoor
open Go.RowKit Go.Proofs.Tryz
section
open Go.RowKit Nd
namespace Nd
inductive Fl where
  | none
  | ack
  | byte (b : UInt8) (i : Nat)
def Fl.tx : Fl → List Bool
  | .none => []
  | .ack => [false]
  | .byte b i => (rest b).drop i
def Fl.rx : Fl → List Bool
  | .none => []
  | .ack => [true]
  | .byte b i => (true :: rest b).take (i + 1)
def Fl.ok : Fl → Prop
  | .byte _ i => i ≤ 9
  | _ => True
def Fl.go (f : Fl) (ack : Bool) (data : Option UInt8) : Fl × Bool × Option UInt8 × Heard :=
  match f with
  | .none => if ack then (.ack, false, data, .none) else match data with
    | some b => (.byte b 0, false, Option.none, .none)
    | Option.none => (.none, false, Option.none, .none)
  | .ack => (.none, ack, data, .ack)
  | .byte b i => if i = 9 then (.none, ack, data, .byte b) else (.byte b (i + 1), ack, data, .none)
theorem Fl.go_next (f : Fl) (ack : Bool) (data : Option UInt8) (rx : List Bool) (h : f.ok) : (Se.next ⟨f.tx, ack, data, rx⟩).1 = ⟨(f.go ack data).1.tx, (f.go ack data).2.1, (f.go ack data).2.2.1, rx⟩ := by
  cases f with
  | none => cases ack <;> cases data <;> rfl
  | ack => rfl
  | byte b i =>
    have h : i ≤ 9 := h
    rcases (by omega : i = 0 ∨ i = 1 ∨ i = 2 ∨ i = 3 ∨ i = 4 ∨ i = 5 ∨ i = 6 ∨ i = 7 ∨ i = 8 ∨ i = 9) with rfl | rfl | rfl | rfl | rfl | rfl | rfl | rfl | rfl | rfl <;> rfl
theorem Fl.go_hear (f : Fl) (ack : Bool) (data : Option UInt8) (rx tx : List Bool) (ack' : Bool) (data' : Option UInt8) (h : f.ok) : Se.hear ⟨tx, ack', data', f.rx⟩ (Se.next ⟨f.tx, ack, data, rx⟩).2 = (⟨tx, ack', data', (f.go ack data).1.rx⟩, (f.go ack data).2.2.2) := by
  cases f with
  | none => cases ack <;> cases data <;> rfl
  | ack => rfl
  | byte b i =>
    have h : i ≤ 9 := h
    have hb := byte_back b
    rcases (by omega : i = 0 ∨ i = 1 ∨ i = 2 ∨ i = 3 ∨ i = 4 ∨ i = 5 ∨ i = 6 ∨ i = 7 ∨ i = 8 ∨ i = 9) with rfl | rfl | rfl | rfl | rfl | rfl | rfl | rfl | rfl | rfl
    · rfl
    · rfl
    · rfl
    · rfl
    · rfl
    · rfl
    · rfl
    · rfl
    · rfl
    · show (_, Heard.byte (UInt8.ofNat (num (bitsN 8 b.toNat)))) = _
      rw [hb]
      rfl
theorem Fl.se_ok (f f' : Fl) (ack : Bool) (data : Option UInt8) (h : f.ok) (h' : f'.ok) : Se.ok ⟨f.tx, ack, data, f'.rx⟩ := by
  have k : ∀ (f : Fl), f.ok → f.tx.length ≤ 10 ∧ (∀ h : f.tx ≠ [], f.tx.getLast h = false) ∧ (f.tx.length = 10 → f.tx.head? = some true) := fun f h => by
    cases f with
    | none => exact ⟨by decide, fun h => absurd rfl h, by decide⟩
    | ack => exact ⟨by decide, fun _ => rfl, by decide⟩
    | byte b i =>
      have h : i ≤ 9 := h
      rcases (by omega : i = 0 ∨ i = 1 ∨ i = 2 ∨ i = 3 ∨ i = 4 ∨ i = 5 ∨ i = 6 ∨ i = 7 ∨ i = 8 ∨ i = 9) with rfl | rfl | rfl | rfl | rfl | rfl | rfl | rfl | rfl | rfl <;> exact ⟨by simp [Fl.tx, rest_len], fun _ => rfl, fun h => by first | rfl | (simp [Fl.tx, rest_len] at h)⟩
  have k' : ∀ (f : Fl), f.ok → f.rx.length ≤ 10 ∧ (∀ b, f.rx[0]? = some b → b = true) ∧ (∀ b, f.rx[1]? = some b → b = true) := fun f h => by
    cases f with
    | none => exact ⟨by decide, fun b h => by simp [Fl.rx] at h, fun b h => by simp [Fl.rx] at h⟩
    | ack => exact ⟨by decide, fun b h => by simpa [Fl.rx] using h.symm, fun b h => by simp [Fl.rx] at h⟩
    | byte b i =>
      have h : i ≤ 9 := h
      refine ⟨Nat.le_trans (List.length_take_le _ _) (by omega), fun b' hb => ?_, fun b' hb => ?_⟩
      · simpa [Fl.rx] using hb.symm
      · cases i with
        | zero => simp [Fl.rx] at hb
        | succ j => simpa [Fl.rx, rest] using hb.symm
  obtain ⟨q1, q2, q3⟩ := k f h
  obtain ⟨q4, q5, q6⟩ := k' f' h'
  exact ⟨q1, q2, q3, q4, q5, q6⟩
end Nd
end
section
open Go.RowKit Nd
namespace Nd
structure Ps where
  f0 : Fl
  f1 : Fl
  ha : Bool
  hd : Option UInt8
  hb : Bool
  g : List UInt8
  got : List UInt8
  na : Bool
  nd : Option UInt8
  nb : Bool
  inb : Option UInt8
  buf : List UInt8
  out : List UInt8
  mem : List UInt8
def Ps.host (p : Ps) : Ho := ⟨⟨p.f0.tx, p.ha, p.hd, p.f1.rx⟩, p.g, p.got, p.hb⟩
def Ps.lk (p : Ps) : Lk := ⟨⟨p.f1.tx, p.na, p.nd, p.f0.rx⟩, p.nb, p.inb⟩
def Ps.node (p : Ps) : NB := ⟨if p.buf = [] ∧ p.out = [] then -1 else 0, p.buf, p.out, p.mem, [p.lk, lk0, lk0, lk0], none⟩
def Ps.take (p : Ps) : Ps :=
  if p.hb then p else match p.g with
  | b :: g => if p.hd.isSome then p else { p with hd := some b, g := g, hb := true }
  | [] => p
def Ps.fin (p : Ps) : Ps := match p.buf with
  | [] => p
  | b :: l => if (b :: l).length = whole (b :: l) then (if b = 0 then { p with buf := [], mem := setWord p.mem (num4 l) (num4 (l.drop 4)) } else { p with buf := [], out := four (wordAt p.mem (num4 l)) }) else p
def Ps.act (p : Ps) : Ps := match p.out with
  | v :: _ => if p.nb || p.nd.isSome then p else { p with nd := some v, nb := true }
  | [] => match p.inb with
    | none => p
    | some x => if p.na then p else Ps.fin { p with na := true, inb := none, buf := p.buf ++ [x] }
def Ps.dir0 (p : Ps) : Ps := match (p.f0.go p.ha p.hd).2.2.2 with
  | .ack => if p.nb then { p with f0 := (p.f0.go p.ha p.hd).1, ha := (p.f0.go p.ha p.hd).2.1, hd := (p.f0.go p.ha p.hd).2.2.1, nb := false, out := p.out.drop 1 } else { p with f0 := (p.f0.go p.ha p.hd).1, ha := (p.f0.go p.ha p.hd).2.1, hd := (p.f0.go p.ha p.hd).2.2.1 }
  | .byte b => if p.inb.isSome then { p with f0 := (p.f0.go p.ha p.hd).1, ha := (p.f0.go p.ha p.hd).2.1, hd := (p.f0.go p.ha p.hd).2.2.1 } else { p with f0 := (p.f0.go p.ha p.hd).1, ha := (p.f0.go p.ha p.hd).2.1, hd := (p.f0.go p.ha p.hd).2.2.1, inb := some b }
  | _ => { p with f0 := (p.f0.go p.ha p.hd).1, ha := (p.f0.go p.ha p.hd).2.1, hd := (p.f0.go p.ha p.hd).2.2.1 }
def Ps.dir1 (p : Ps) : Ps := match (p.f1.go p.na p.nd).2.2.2 with
  | .ack => { p with f1 := (p.f1.go p.na p.nd).1, na := (p.f1.go p.na p.nd).2.1, nd := (p.f1.go p.na p.nd).2.2.1, hb := false }
  | .byte b => { p with f1 := (p.f1.go p.na p.nd).1, na := (p.f1.go p.na p.nd).2.1, nd := (p.f1.go p.na p.nd).2.2.1, got := p.got ++ [b], ha := true }
  | _ => { p with f1 := (p.f1.go p.na p.nd).1, na := (p.f1.go p.na p.nd).2.1, nd := (p.f1.go p.na p.nd).2.2.1 }
def pstep (a b : Bool) (p : Ps) : Ps :=
  let q := p.take.act
  let q := if a then q else q.dir0
  if b then q else q.dir1
theorem sim_take (p : Ps) : p.host.take = p.take.host ∧ p.take.node = p.node := by
  obtain ⟨f0, f1, ha, hd, hb, g, got, na, nd, nb, inb, buf, out, mem⟩ := p
  unfold Ho.take Ps.take Ps.host Ps.node Ps.lk
  dsimp only
  cases hb with
  | true => exact ⟨rfl, rfl⟩
  | false =>
    cases g with
    | nil => exact ⟨rfl, rfl⟩
    | cons b g => cases hd <;> exact ⟨rfl, rfl⟩
theorem sim_act (p : Ps) (hw : p.out = [] → ∀ x, p.inb = some x → (p.buf ++ [x]).length = whole (p.buf ++ [x]) → (p.buf ++ [x]).head? = some 0 ∨ (p.buf ++ [x]).head? = some 1) : p.node.step = p.act.node ∧ p.act.host = p.host := by
  obtain ⟨f0, f1, ha, hd, hb, g, got, na, nd, nb, inb, buf, out, mem⟩ := p
  dsimp only at hw
  cases out with
  | cons v out =>
    have e : (if buf = [] ∧ v :: out = [] then (-1 : Int) else 0) = 0 := if_neg (fun h => by cases h.2)
    unfold Ps.node Ps.act Ps.host NB.step Ps.lk
    dsimp only [Option.isSome_none]
    rw [if_neg Bool.false_ne_true, e]
    cases nb <;> cases nd <;> simp [Lk.send, e]
  | nil =>
    cases inb with
    | none =>
      unfold Ps.node Ps.act Ps.host NB.step Ps.lk
      dsimp only [Option.isSome_none]
      rw [if_neg Bool.false_ne_true]
      cases buf <;> exact ⟨rfl, rfl⟩
    | some x =>
      have key : ∀ k : Nat, (if (if buf = [] ∧ ([] : List UInt8) = [] then (-1 : Int) else 0) < 0 then NB.first (Ps.node ⟨f0, f1, ha, hd, hb, g, got, na, nd, nb, some x, buf, [], mem⟩) else some (if buf = [] ∧ ([] : List UInt8) = [] then (-1 : Int) else 0).toNat) = some 0 := fun _ => by cases buf <;> rfl
      have hs : (Ps.node ⟨f0, f1, ha, hd, hb, g, got, na, nd, nb, some x, buf, [], mem⟩).step = (if na then Ps.node ⟨f0, f1, ha, hd, hb, g, got, na, nd, nb, some x, buf, [], mem⟩ else
          let m : NB := ⟨0, buf ++ [x], [], mem, [⟨⟨f1.tx, true, nd, f0.rx⟩, nb, none⟩, lk0, lk0, lk0], none⟩
          if m.buf.length = whole m.buf then m.command else m) := by
        unfold NB.step
        rw [if_neg (by exact Bool.false_ne_true)]
        show (match (if (if buf = [] ∧ ([] : List UInt8) = [] then (-1 : Int) else 0) < 0 then NB.first (Ps.node ⟨f0, f1, ha, hd, hb, g, got, na, nd, nb, some x, buf, [], mem⟩) else some (if buf = [] ∧ ([] : List UInt8) = [] then (-1 : Int) else 0).toNat) with
          | none => _
          | some k => _) = _
        rw [key 0]
        cases na <;> rfl
      rw [hs]
      cases na with
      | true => exact ⟨rfl, rfl⟩
      | false =>
        have hw := hw rfl x rfl
        obtain ⟨c, l, hcl⟩ : ∃ c l, buf ++ [x] = c :: l := by cases buf <;> exact ⟨_, _, rfl⟩
        unfold Ps.act
        dsimp only
        rw [if_neg Bool.false_ne_true, if_neg Bool.false_ne_true]
        rw [hcl] at hw ⊢
        unfold Ps.fin
        dsimp only
        by_cases h : (c :: l).length = whole (c :: l)
        · rw [if_pos h, if_pos h]
          unfold NB.command
          dsimp only
          by_cases hc : c = 0
          · rw [if_pos hc, if_pos hc]
            exact ⟨rfl, rfl⟩
          · have h1 : c = 1 := by
              rcases hw h with q | q
              · simp at q; exact absurd q hc
              · simpa using q
            rw [if_neg hc, if_neg hc, if_pos h1]
            exact ⟨rfl, rfl⟩
        · rw [if_neg h, if_neg h]
          exact ⟨rfl, rfl⟩
theorem sim_dir0 (p : Ps) (hf : p.f0.ok) (hb : p.nb = true → p.buf = []) : ({ p.host with en := p.host.en.next.1 } : Ho) = p.dir0.host ∧ p.node.rx 0 p.host.en.next.2 = p.dir0.node := by
  obtain ⟨f0, f1, ha, hd, hbb, g, got, na, nd, nb, inb, buf, out, mem⟩ := p
  dsimp only at hf hb
  have e1 := Fl.go_next f0 ha hd f1.rx hf
  have e2 := Fl.go_hear f0 ha hd f1.rx f1.tx na nd hf
  unfold Ps.dir0 NB.rx
  dsimp only
  have e3 : (Ps.node ⟨f0, f1, ha, hd, hbb, g, got, na, nd, nb, inb, buf, out, mem⟩).at 0 = ⟨⟨f1.tx, na, nd, f0.rx⟩, nb, inb⟩ := rfl
  rw [e3]
  dsimp only
  unfold Ps.host
  dsimp only
  rw [e1, e2]
  obtain ⟨f, a', d', hr⟩ := f0.go ha hd
  dsimp only
  cases hr with
  | none => exact ⟨rfl, rfl⟩
  | bad => exact ⟨rfl, rfl⟩
  | byte b => cases inb <;> exact ⟨rfl, rfl⟩
  | ack =>
    cases nb with
    | false => exact ⟨rfl, rfl⟩
    | true =>
      obtain rfl := hb rfl
      refine ⟨rfl, ?_⟩
      show NB.mk _ _ _ _ _ _ = NB.mk _ _ _ _ _ _
      cases out with
      | nil => rfl
      | cons v out => cases out <;> rfl
theorem sim_dir1 (p : Ps) (hf : p.f1.ok) : Ho.hears { p.host with en := (p.host.en.hear (p.node.tx 0).2).1 } (p.host.en.hear (p.node.tx 0).2).2 = p.dir1.host ∧ (p.node.tx 0).1 = p.dir1.node := by
  obtain ⟨f0, f1, ha, hd, hbb, g, got, na, nd, nb, inb, buf, out, mem⟩ := p
  dsimp only at hf
  have e1 := Fl.go_next f1 na nd f0.rx hf
  have e2 := Fl.go_hear f1 na nd f0.rx f0.tx ha hd hf
  have e3 : (Ps.node ⟨f0, f1, ha, hd, hbb, g, got, na, nd, nb, inb, buf, out, mem⟩).at 0 = ⟨⟨f1.tx, na, nd, f0.rx⟩, nb, inb⟩ := rfl
  unfold NB.tx
  rw [e3]
  dsimp only
  unfold Ps.host Ps.dir1
  dsimp only
  rw [e1, e2]
  obtain ⟨f, a', d', hr⟩ := f1.go na nd
  dsimp only
  cases hr with
  | none => exact ⟨rfl, rfl⟩
  | bad => exact ⟨rfl, rfl⟩
  | byte b => cases ha <;> exact ⟨rfl, rfl⟩
  | ack => exact ⟨rfl, rfl⟩
end Nd
end
section
open Go.RowKit Nd
namespace Nd
def b2n (b : Bool) : Nat := if b then 1 else 0
def Fl.acks : Fl → Nat
  | .ack => 1
  | _ => 0
def Fl.bys : Fl → Nat
  | .byte _ _ => 1
  | _ => 0
def Fl.bytes : Fl → List UInt8
  | .byte b _ => [b]
  | _ => []
def Fl.cost : Fl → Nat
  | .none => 0
  | .ack => 1
  | .byte _ i => 12 - i
def Fl.busy : Fl → Bool
  | .none => false
  | _ => true
def eat : List UInt8 → List UInt8 → List UInt8 → List UInt8 × List UInt8 × Bool
  | buf, mem, [] => ([], mem, buf.isEmpty)
  | buf, mem, x :: xs => match buf ++ [x] with
    | [] => ([], mem, false)
    | c :: l => if (c :: l).length = whole (c :: l) then
        (if c = 0 then eat [] (setWord mem (num4 l) (num4 (l.drop 4))) xs else if c = 1 then (four (wordAt mem (num4 l)) ++ (eat [] mem xs).1, (eat [] mem xs).2) else ([], mem, false))
      else eat (c :: l) mem xs
def Ps.pin (p : Ps) : List UInt8 := p.hd.toList ++ p.f0.bytes ++ p.inb.toList ++ p.g
structure Ps.ok (p : Ps) : Prop where
  v0 : p.f0.ok
  v1 : p.f1.ok
  A : b2n p.hd.isSome + p.f0.bys + b2n p.inb.isSome + b2n p.na + p.f1.acks = b2n p.hb
  B : b2n p.nd.isSome + p.f1.bys + b2n p.ha + p.f0.acks = b2n p.nb
  C : p.nb = true → p.out ≠ []
  D : p.out ≠ [] → p.buf = []
  E : p.buf ≠ [] → p.buf.length < whole p.buf
  L : p.mem.length = 1024
  G : ∀ v, p.nd = some v → p.out.head? = some v
  G' : ∀ v, v ∈ p.f1.bytes → p.out.head? = some v
structure Ps.str (p : Ps) (want fm : List UInt8) : Prop where
  s1 : p.got ++ p.out.drop (b2n p.ha + p.f0.acks) ++ (eat p.buf p.mem p.pin).1 = want
  s2 : (eat p.buf p.mem p.pin).2.1 = fm
  s3 : (eat p.buf p.mem p.pin).2.2 = true
def Ps.phi (p : Ps) : Nat := 13 * p.g.length + 13 * b2n p.hd.isSome + p.f0.cost + 2 * b2n p.inb.isSome + 2 * b2n p.na + p.f1.cost + 13 * b2n p.nd.isSome + 2 * b2n p.ha + 13 * (p.out.length - b2n p.nb) + 13 * (eat p.buf p.mem p.pin).1.length
theorem b2n_true : b2n true = 1 := rfl
theorem b2n_false : b2n false = 0 := rfl
theorem b2n_le (b : Bool) : b2n b ≤ 1 := by cases b <;> decide
theorem take_inv (p : Ps) {want fm : List UInt8} (h : p.ok) (s : p.str want fm) : p.take.ok ∧ p.take.str want fm ∧ p.take.phi = p.phi := by
  obtain ⟨f0, f1, ha, hd, hb, g, got, na, nd, nb, inb, buf, out, mem⟩ := p
  cases hb with
  | true => exact ⟨h, s, rfl⟩
  | false =>
    cases g with
    | nil => exact ⟨h, s, rfl⟩
    | cons b g =>
      obtain ⟨v0, v1, A, B, C, D, E, L, G, G'⟩ := h
      dsimp only at v0 v1 A B C D E L G G'
      rw [b2n_false] at A
      have hd0 : hd = none := by cases hd with
        | none => rfl
        | some x => simp [b2n] at A
      have hi0 : inb = none := by cases inb with
        | none => rfl
        | some x => simp [b2n] at A
      have hf0 : f0.bytes = [] := by cases f0 with
        | byte b i => simp [Fl.bys] at A
        | _ => rfl
      subst hd0 hi0
      have e : Ps.take ⟨f0, f1, ha, none, false, b :: g, got, na, nd, nb, none, buf, out, mem⟩ = ⟨f0, f1, ha, some b, true, g, got, na, nd, nb, none, buf, out, mem⟩ := rfl
      have hp : Ps.pin ⟨f0, f1, ha, some b, true, g, got, na, nd, nb, none, buf, out, mem⟩ = Ps.pin ⟨f0, f1, ha, none, false, b :: g, got, na, nd, nb, none, buf, out, mem⟩ := by
        unfold Ps.pin
        dsimp only
        rw [hf0]
        rfl
      rw [e]
      refine ⟨⟨v0, v1, ?_, B, C, D, E, L, G, G'⟩, ⟨?_, ?_, ?_⟩, ?_⟩
      · dsimp only at A ⊢
        simp only [b2n, Option.isSome_none, Option.isSome_some, Bool.false_eq_true, if_true, if_false] at A ⊢
        omega
      · rw [hp]; exact s.s1
      · rw [hp]; exact s.s2
      · rw [hp]; exact s.s3
      · unfold Ps.phi
        rw [hp]
        simp only [b2n, Option.isSome_none, Option.isSome_some, Bool.false_eq_true, if_true, if_false, List.length_cons]
        omega
theorem dir0_inv (p : Ps) {want fm : List UInt8} (h : p.ok) (s : p.str want fm) : p.dir0.ok ∧ p.dir0.str want fm ∧ p.dir0.phi + b2n (p.f0.busy || p.ha || p.hd.isSome) = p.phi := by
  obtain ⟨f0, f1, ha, hd, hb, g, got, na, nd, nb, inb, buf, out, mem⟩ := p
  obtain ⟨v0, v1, A, B, C, D, E, L, G, G'⟩ := h
  dsimp only at v0 v1 A B C D E L G G'
  cases f0 with
  | none =>
    cases ha with
    | true =>
      refine ⟨⟨trivial, v1, A, ?_, C, D, E, L, G, G'⟩, ⟨s.s1, s.s2, s.s3⟩, ?_⟩
      · simp only [Fl.acks, b2n_true] at B
        show b2n nd.isSome + f1.bys + 0 + 1 = b2n nb
        omega
      · show Ps.phi ⟨.ack, f1, false, hd, hb, g, got, na, nd, nb, inb, buf, out, mem⟩ + 1 = Ps.phi ⟨.none, f1, true, hd, hb, g, got, na, nd, nb, inb, buf, out, mem⟩
        simp only [Ps.phi, Ps.pin, Fl.bytes, Fl.cost, b2n_true, b2n_false]
        omega
    | false =>
      cases hd with
      | none => exact ⟨⟨v0, v1, A, B, C, D, E, L, G, G'⟩, s, rfl⟩
      | some b =>
        have hp : Ps.pin ⟨.byte b 0, f1, false, none, hb, g, got, na, nd, nb, inb, buf, out, mem⟩ = Ps.pin ⟨.none, f1, false, some b, hb, g, got, na, nd, nb, inb, buf, out, mem⟩ := rfl
        refine ⟨⟨Nat.zero_le _, v1, ?_, B, C, D, E, L, G, G'⟩, ⟨s.s1, s.s2, s.s3⟩, ?_⟩
        · simp only [Fl.bys, Option.isSome_some, b2n_true] at A
          show 0 + 1 + b2n inb.isSome + b2n na + f1.acks = b2n hb
          omega
        · show Ps.phi ⟨.byte b 0, f1, false, none, hb, g, got, na, nd, nb, inb, buf, out, mem⟩ + 1 = Ps.phi ⟨.none, f1, false, some b, hb, g, got, na, nd, nb, inb, buf, out, mem⟩
          unfold Ps.phi
          rw [hp]
          simp only [Fl.cost, b2n_true, b2n_false, Option.isSome_none, Option.isSome_some]
          omega
  | ack =>
    simp only [Fl.acks] at B
    have hnb : nb = true := by cases nb with
      | true => rfl
      | false => simp [b2n] at B
    subst hnb
    rw [b2n_true] at B
    have hnd : nd = none := by cases nd with
      | none => rfl
      | some x => simp [b2n] at B
    have hha : ha = false := by cases ha with
      | false => rfl
      | true => simp [b2n] at B
    have hf1 : f1.bytes = [] ∧ f1.bys = 0 := by cases f1 with
      | byte b i => simp [Fl.bys] at B
      | _ => exact ⟨rfl, rfl⟩
    subst hnd hha
    have e : Ps.dir0 ⟨.ack, f1, false, hd, hb, g, got, na, none, true, inb, buf, out, mem⟩ = ⟨.none, f1, false, hd, hb, g, got, na, none, false, inb, buf, out.drop 1, mem⟩ := rfl
    rw [e]
    refine ⟨⟨trivial, v1, A, ?_, (fun h => by cases h), (fun h => D fun q => h (by rw [q]; rfl)), E, L, (fun v h => by cases h), (fun v h => by dsimp only at h; rw [hf1.1] at h; cases h)⟩, ⟨?_, s.s2, s.s3⟩, ?_⟩
    · show 0 + f1.bys + 0 + 0 = 0
      rw [hf1.2]
    · have := s.s1
      simpa [Fl.acks, b2n, Ps.pin, Fl.bytes] using this
    · show Ps.phi ⟨.none, f1, false, hd, hb, g, got, na, none, false, inb, buf, out.drop 1, mem⟩ + 1 = Ps.phi ⟨.ack, f1, false, hd, hb, g, got, na, none, true, inb, buf, out, mem⟩
      simp only [Ps.phi, Ps.pin, Fl.bytes, Fl.cost, b2n_true, b2n_false, List.length_drop]
      omega
  | byte b i =>
    have v0 : i ≤ 9 := v0
    by_cases hi : i = 9
    · subst hi
      simp only [Fl.bys] at A
      have hin : inb = none := by cases inb with
        | none => rfl
        | some x =>
          have := b2n_le hb
          simp only [Option.isSome_some, b2n_true] at A
          omega
      subst hin
      have e : Ps.dir0 ⟨.byte b 9, f1, ha, hd, hb, g, got, na, nd, nb, none, buf, out, mem⟩ = ⟨.none, f1, ha, hd, hb, g, got, na, nd, nb, some b, buf, out, mem⟩ := rfl
      have hp : Ps.pin ⟨.none, f1, ha, hd, hb, g, got, na, nd, nb, some b, buf, out, mem⟩ = Ps.pin ⟨.byte b 9, f1, ha, hd, hb, g, got, na, nd, nb, none, buf, out, mem⟩ := by simp [Ps.pin, Fl.bytes]
      rw [e]
      refine ⟨⟨trivial, v1, ?_, B, C, D, E, L, G, G'⟩, ⟨by rw [hp]; exact s.s1, by rw [hp]; exact s.s2, by rw [hp]; exact s.s3⟩, ?_⟩
      · simp only [Option.isSome_none, b2n_false] at A
        show b2n hd.isSome + 0 + 1 + b2n na + f1.acks = b2n hb
        omega
      · show Ps.phi ⟨.none, f1, ha, hd, hb, g, got, na, nd, nb, some b, buf, out, mem⟩ + 1 = Ps.phi ⟨.byte b 9, f1, ha, hd, hb, g, got, na, nd, nb, none, buf, out, mem⟩
        unfold Ps.phi
        rw [hp]
        simp only [Fl.cost, b2n_true, b2n_false, Option.isSome_none, Option.isSome_some]
        omega
    · have e : Ps.dir0 ⟨.byte b i, f1, ha, hd, hb, g, got, na, nd, nb, inb, buf, out, mem⟩ = ⟨.byte b (i + 1), f1, ha, hd, hb, g, got, na, nd, nb, inb, buf, out, mem⟩ := by
        unfold Ps.dir0 Fl.go
        dsimp only
        rw [if_neg hi]
      rw [e]
      refine ⟨⟨(show i + 1 ≤ 9 by omega), v1, A, B, C, D, E, L, G, G'⟩, ⟨s.s1, s.s2, s.s3⟩, ?_⟩
      show Ps.phi ⟨.byte b (i + 1), f1, ha, hd, hb, g, got, na, nd, nb, inb, buf, out, mem⟩ + 1 = Ps.phi ⟨.byte b i, f1, ha, hd, hb, g, got, na, nd, nb, inb, buf, out, mem⟩
      simp only [Ps.phi, Ps.pin, Fl.bytes, Fl.cost]
      omega
theorem dir1_inv (p : Ps) {want fm : List UInt8} (h : p.ok) (s : p.str want fm) : p.dir1.ok ∧ p.dir1.str want fm ∧ p.dir1.phi + b2n (p.f1.busy || p.na || p.nd.isSome) = p.phi := by
  obtain ⟨f0, f1, ha, hd, hb, g, got, na, nd, nb, inb, buf, out, mem⟩ := p
  obtain ⟨v0, v1, A, B, C, D, E, L, G, G'⟩ := h
  dsimp only at v0 v1 A B C D E L G G'
  cases f1 with
  | none =>
    cases na with
    | true =>
      refine ⟨⟨v0, trivial, ?_, B, C, D, E, L, G, G'⟩, ⟨s.s1, s.s2, s.s3⟩, ?_⟩
      · simp only [Fl.acks, b2n_true] at A
        show b2n hd.isSome + f0.bys + b2n inb.isSome + 0 + 1 = b2n hb
        omega
      · show Ps.phi ⟨f0, .ack, ha, hd, hb, g, got, false, nd, nb, inb, buf, out, mem⟩ + 1 = Ps.phi ⟨f0, .none, ha, hd, hb, g, got, true, nd, nb, inb, buf, out, mem⟩
        simp only [Ps.phi, Ps.pin, Fl.cost, b2n_true, b2n_false]
        omega
    | false =>
      cases nd with
      | none => exact ⟨⟨v0, v1, A, B, C, D, E, L, G, G'⟩, s, rfl⟩
      | some v =>
        refine ⟨⟨v0, Nat.zero_le _, A, ?_, C, D, E, L, (fun v h => by cases h), (fun w h => by
          have h : w ∈ [v] := h
          have : w = v := by simpa using h
          subst this
          exact G w rfl)⟩, ⟨s.s1, s.s2, s.s3⟩, ?_⟩
        · simp only [Fl.bys, Option.isSome_some, b2n_true] at B
          show 0 + 1 + b2n ha + f0.acks = b2n nb
          omega
        · show Ps.phi ⟨f0, .byte v 0, ha, hd, hb, g, got, false, none, nb, inb, buf, out, mem⟩ + 1 = Ps.phi ⟨f0, .none, ha, hd, hb, g, got, false, some v, nb, inb, buf, out, mem⟩
          simp only [Ps.phi, Ps.pin, Fl.cost, b2n_true, b2n_false, Option.isSome_none, Option.isSome_some]
          omega
  | ack =>
    simp only [Fl.acks] at A
    have hhb : hb = true := by cases hb with
      | true => rfl
      | false => simp [b2n] at A
    subst hhb
    rw [b2n_true] at A
    refine ⟨⟨v0, trivial, ?_, B, C, D, E, L, G, (fun v h => by cases h)⟩, ⟨s.s1, s.s2, s.s3⟩, ?_⟩
    · show b2n hd.isSome + f0.bys + b2n inb.isSome + b2n na + 0 = 0
      omega
    · show Ps.phi ⟨f0, .none, ha, hd, false, g, got, na, nd, nb, inb, buf, out, mem⟩ + 1 = Ps.phi ⟨f0, .ack, ha, hd, true, g, got, na, nd, nb, inb, buf, out, mem⟩
      simp only [Ps.phi, Ps.pin, Fl.cost]
      omega
  | byte v i =>
    have v1 : i ≤ 9 := v1
    by_cases hi : i = 9
    · subst hi
      simp only [Fl.bys] at B
      have hle := b2n_le nb
      have hha : ha = false := by cases ha with
        | false => rfl
        | true => rw [b2n_true] at B; omega
      subst hha
      rw [b2n_false] at B
      have hac : f0.acks = 0 := by omega
      have hout : out.head? = some v := G' v (by simp [Fl.bytes])
      obtain ⟨t, rfl⟩ : ∃ t, out = v :: t := by cases out with
        | nil => cases hout
        | cons w t => simp at hout; exact ⟨t, by rw [hout]⟩
      have e : Ps.dir1 ⟨f0, .byte v 9, false, hd, hb, g, got, na, nd, nb, inb, buf, v :: t, mem⟩ = ⟨f0, .none, true, hd, hb, g, got ++ [v], na, nd, nb, inb, buf, v :: t, mem⟩ := rfl
      rw [e]
      refine ⟨⟨v0, trivial, A, ?_, C, D, E, L, G, (fun w h => by cases h)⟩, ⟨?_, s.s2, s.s3⟩, ?_⟩
      · show b2n nd.isSome + 0 + 1 + f0.acks = b2n nb
        omega
      · have h1 := s.s1
        dsimp only at h1 ⊢
        rw [hac] at h1 ⊢
        rw [← h1]
        simp [b2n, Ps.pin]
      · show Ps.phi ⟨f0, .none, true, hd, hb, g, got ++ [v], na, nd, nb, inb, buf, v :: t, mem⟩ + 1 = Ps.phi ⟨f0, .byte v 9, false, hd, hb, g, got, na, nd, nb, inb, buf, v :: t, mem⟩
        simp only [Ps.phi, Ps.pin, Fl.cost, b2n_true, b2n_false]
        omega
    · have e : Ps.dir1 ⟨f0, .byte v i, ha, hd, hb, g, got, na, nd, nb, inb, buf, out, mem⟩ = ⟨f0, .byte v (i + 1), ha, hd, hb, g, got, na, nd, nb, inb, buf, out, mem⟩ := by
        unfold Ps.dir1 Fl.go
        dsimp only
        rw [if_neg hi]
      rw [e]
      refine ⟨⟨v0, (show i + 1 ≤ 9 by omega), A, B, C, D, E, L, G, G'⟩, ⟨s.s1, s.s2, s.s3⟩, ?_⟩
      show Ps.phi ⟨f0, .byte v (i + 1), ha, hd, hb, g, got, na, nd, nb, inb, buf, out, mem⟩ + 1 = Ps.phi ⟨f0, .byte v i, ha, hd, hb, g, got, na, nd, nb, inb, buf, out, mem⟩
      simp only [Ps.phi, Ps.pin, Fl.cost]
      omega
theorem act_inv (p : Ps) {want fm : List UInt8} (h : p.ok) (s : p.str want fm) : p.act.ok ∧ p.act.str want fm ∧ p.act.phi = p.phi ∧ (p.out = [] → ∀ x, p.inb = some x → (p.buf ++ [x]).length = whole (p.buf ++ [x]) → (p.buf ++ [x]).head? = some 0 ∨ (p.buf ++ [x]).head? = some 1)
    ∧ (p.act.nd = none → p.act.nb = false → p.act.na = false → p.act.out = [] ∧ p.act.inb = none) ∧ p.act.hd = p.hd ∧ p.act.g = p.g ∧ p.act.hb = p.hb := by
  obtain ⟨f0, f1, ha, hd, hb, g, got, na, nd, nb, inb, buf, out, mem⟩ := p
  obtain ⟨v0, v1, A, B, C, D, E, L, G, G'⟩ := h
  dsimp only at v0 v1 A B C D E L G G'
  cases out with
  | cons v out =>
    cases nb with
    | true => exact ⟨⟨v0, v1, A, B, C, D, E, L, G, G'⟩, s, rfl, (fun h => by cases h), (fun _ h => by cases h), rfl, rfl, rfl⟩
    | false =>
      rw [b2n_false] at B
      have hnd : nd = none := by cases nd with
        | none => rfl
        | some x => simp [b2n] at B
      subst hnd
      have hf1 : f1.bytes = [] := by cases f1 with
        | byte b i => simp [Fl.bys] at B
        | _ => rfl
      have e : Ps.act ⟨f0, f1, ha, hd, hb, g, got, na, none, false, inb, buf, v :: out, mem⟩ = ⟨f0, f1, ha, hd, hb, g, got, na, some v, true, inb, buf, v :: out, mem⟩ := rfl
      rw [e]
      refine ⟨⟨v0, v1, A, ?_, (fun _ => by simp), D, E, L, (fun w h => by cases h; rfl), (fun w h => by dsimp only at h; rw [hf1] at h; cases h)⟩, ⟨s.s1, s.s2, s.s3⟩, ?_, (fun h => by cases h), (fun h => by cases h), rfl, rfl, rfl⟩
      · show 1 + f1.bys + b2n ha + f0.acks = 1
        simp only [Option.isSome_none, b2n_false] at B
        omega
      · simp only [Ps.phi, Ps.pin, b2n_true, b2n_false, Option.isSome_none, Option.isSome_some, List.length_cons]
        omega
  | nil =>
    have hnb : nb = false := by cases nb with
      | false => rfl
      | true => exact absurd rfl (C rfl)
    subst hnb
    cases inb with
    | none => exact ⟨⟨v0, v1, A, B, C, D, E, L, G, G'⟩, s, rfl, (fun _ x h => by cases h), (fun _ _ _ => ⟨rfl, rfl⟩), rfl, rfl, rfl⟩
    | some x =>
      have hle := b2n_le hb
      simp only [Option.isSome_some, b2n_true] at A
      have hna : na = false := by cases na with
        | false => rfl
        | true => rw [b2n_true] at A; omega
      have hhd : hd = none := by cases hd with
        | none => rfl
        | some y => simp only [Option.isSome_some, b2n_true] at A; omega
      have hf0 : f0.bytes = [] := by cases f0 with
        | byte b i => simp only [Fl.bys] at A; omega
        | _ => rfl
      subst hna hhd
      rw [b2n_false] at B
      have hha : ha = false := by cases ha with
        | false => rfl
        | true => rw [b2n_true] at B; omega
      have hac : f0.acks = 0 := by omega
      subst hha
      simp only [Option.isSome_none, b2n_false] at A
      obtain ⟨c, l, hcl⟩ : ∃ c l, buf ++ [x] = c :: l := by cases buf <;> exact ⟨_, _, rfl⟩
      have hp : Ps.pin ⟨f0, f1, false, none, hb, g, got, false, nd, false, some x, buf, [], mem⟩ = x :: g := by simp [Ps.pin, hf0]
      have hp2 : ∀ (b o m : List UInt8), Ps.pin ⟨f0, f1, false, none, hb, g, got, true, nd, false, none, b, o, m⟩ = g := fun b o m => by simp [Ps.pin, hf0]
      have hs := s
      obtain ⟨s1, s2, s3⟩ := s
      dsimp only at s1 s2 s3
      rw [hp] at s1 s2 s3
      unfold eat at s1 s2 s3
      rw [hcl] at s1 s2 s3
      dsimp only at s1 s2 s3
      have hact : Ps.act ⟨f0, f1, false, none, hb, g, got, false, nd, false, some x, buf, [], mem⟩ = Ps.fin ⟨f0, f1, false, none, hb, g, got, true, nd, false, none, c :: l, [], mem⟩ := by
        unfold Ps.act
        dsimp only
        rw [if_neg Bool.false_ne_true, hcl]
      have hlen : (c :: l).length = buf.length + 1 := by rw [← hcl]; simp
      rw [hact]
      unfold Ps.fin
      dsimp only
      by_cases hw : (c :: l).length = whole (c :: l)
      · rw [if_pos hw]
        rw [if_pos hw] at s1 s2 s3
        by_cases hc : c = 0
        · rw [if_pos hc]
          rw [if_pos hc] at s1 s2 s3
          refine ⟨⟨v0, v1, ?_, ?_, (fun h => by cases h), (fun h => absurd rfl h), (fun h => absurd rfl h), ?_, G, G'⟩, ⟨?_, ?_, ?_⟩, ?_, (fun _ y h _ => by cases h; rw [hcl]; left; rw [hc]; rfl), (fun _ _ h => by cases h), rfl, rfl, rfl⟩
          · show 0 + f0.bys + 0 + 1 + f1.acks = b2n hb
            omega
          · show b2n nd.isSome + f1.bys + 0 + f0.acks = 0
            exact B
          · rw [setWord_len _ _ _ (by rw [L]), L]
          · dsimp only; rw [hp2]; exact s1
          · dsimp only; rw [hp2]; exact s2
          · dsimp only; rw [hp2]; exact s3
          · unfold Ps.phi
            rw [hp, hp2]
            have e0 : eat buf mem (x :: g) = eat [] (setWord mem (num4 l) (num4 (l.drop 4))) g := by
              rw [eat, hcl]
              dsimp only
              rw [if_pos hw, if_pos hc]
            dsimp only
            rw [e0]
            simp only [b2n_true, b2n_false, Option.isSome_none, Option.isSome_some, List.length_nil]
            try omega
        · rw [if_neg hc]
          rw [if_neg hc] at s1 s2 s3
          by_cases hc1 : c = 1
          · rw [if_pos hc1] at s1 s2 s3
            refine ⟨⟨v0, v1, ?_, ?_, (fun h => by cases h), (fun _ => rfl), (fun h => absurd rfl h), L, ?_, ?_⟩, ⟨?_, ?_, ?_⟩, ?_, (fun _ y h _ => by cases h; rw [hcl]; right; rw [hc1]; rfl), (fun _ _ h => by cases h), rfl, rfl, rfl⟩
            · show 0 + f0.bys + 0 + 1 + f1.acks = b2n hb
              omega
            · show b2n nd.isSome + f1.bys + 0 + f0.acks = 0
              exact B
            · intro v hv
              have hv : nd = some v := hv
              rw [hv] at B
              simp [b2n] at B
            · intro v hv
              have hv : v ∈ f1.bytes := hv
              cases f1 with
              | byte b i => simp [Fl.bys] at B
              | none => cases hv
              | ack => cases hv
            · dsimp only
              rw [hp2, hac]
              simpa [b2n, List.append_assoc] using s1
            · dsimp only; rw [hp2]; exact s2
            · dsimp only; rw [hp2]; exact s3
            · unfold Ps.phi
              rw [hp, hp2]
              have e0 : eat buf mem (x :: g) = (four (wordAt mem (num4 l)) ++ (eat [] mem g).1, (eat [] mem g).2) := by
                rw [eat, hcl]
                dsimp only
                rw [if_pos hw, if_neg hc, if_pos hc1]
              dsimp only
              rw [e0]
              simp only [b2n_true, b2n_false, Option.isSome_none, Option.isSome_some, List.length_nil, List.length_append, four_len]
              omega
          · rw [if_neg hc1] at s3
            cases s3
      · rw [if_neg hw]
        rw [if_neg hw] at s1 s2 s3
        refine ⟨⟨v0, v1, ?_, ?_, (fun h => by cases h), (fun h => absurd rfl h), (fun _ => ?_), L, G, G'⟩, ⟨?_, ?_, ?_⟩, ?_, (fun _ y h hw' => by cases h; rw [hcl] at hw'; exact absurd hw' hw), (fun _ _ h => by cases h), rfl, rfl, rfl⟩
        · show 0 + f0.bys + 0 + 1 + f1.acks = b2n hb
          omega
        · show b2n nd.isSome + f1.bys + 0 + f0.acks = 0
          exact B
        · show (c :: l).length < whole (c :: l)
          have : (c :: l).length ≤ whole (c :: l) := by
            cases buf with
            | nil =>
              simp only [List.nil_append, List.cons.injEq] at hcl
              obtain ⟨rfl, rfl⟩ := hcl
              have := whole_one x
              simp only [List.length_cons, List.length_nil]
              omega
            | cons d t =>
              simp only [List.cons_append, List.cons.injEq] at hcl
              obtain ⟨rfl, rfl⟩ := hcl
              have := E (by simp)
              have e1 : whole (d :: t) = whole (d :: (t ++ [x])) := rfl
              rw [e1] at this
              simp only [List.length_cons, List.length_append, List.length_nil] at this ⊢
              omega
          omega
        · dsimp only; rw [hp2]; exact s1
        · dsimp only; rw [hp2]; exact s2
        · dsimp only; rw [hp2]; exact s3
        · unfold Ps.phi
          rw [hp, hp2]
          have e0 : eat buf mem (x :: g) = eat (c :: l) mem g := by
            rw [eat, hcl]
            dsimp only
            rw [if_neg hw]
          dsimp only
          rw [e0]
          simp only [b2n_true, b2n_false, Option.isSome_none, Option.isSome_some, List.length_nil]
          try omega
end Nd
end
end Go.Proofs.YtjhbglklcddekaaGreatDoor
