/- Parts: N18. -/
import Derived.Test.YtjhbglklcddekaaGreatDoorP29
import Derived.Test.YtjhbglklcddekaaGreatDoorP31
import Derived.Test.YtjhbglklcddekaaGreatDoorP32
import Derived.Test.YtjhbglklcddekaaGreatDoorP33
import Derived.Test.YtjhbglklcddekaaGreatDoorP34
import Derived.Test.YtjhbglklcddekaaGreatDoorP35
set_option linter.all false
set_option maxRecDepth 100000
set_option maxHeartbeats 16000000
namespace Go.Proofs.YtjhbglklcddekaaGreatDoor
open Go.RowKit Go.Proofs.Tryz
section
open Go.RowKit Nd
namespace Nd
theorem Lk.take_some {l l' : Lk} {b : UInt8} (h : l.take = some (l', b)) : l.inb = some b ∧ l'.busy = l.busy ∧ (l.wire.ok → l'.wire.ok) := by
  obtain ⟨⟨tx, ack, data, rx⟩, busy, inb⟩ := l
  cases inb with
  | none => cases h
  | some x =>
    cases ack with
    | true => cases h
    | false =>
      cases h
      exact ⟨rfl, rfl, fun h => ⟨h.txl, h.last, h.first, h.rxl, h.rx0, h.rx1⟩⟩
theorem Lk.send_ok (l : Lk) (o : UInt8) (h : l.wire.ok) : (l.send o).wire.ok := by
  unfold Lk.send
  split
  · exact h
  · exact ⟨h.txl, h.last, h.first, h.rxl, h.rx0, h.rx1⟩
theorem at4_modify {k : Nat} (hk : k < 4) (l : Lk) (f : Lk → Lk) : (at4 k l).modify k f = at4 k (f l) := by
  rcases four_k hk with rfl | rfl | rfl | rfl <;> rfl
theorem at4_first {k : Nat} (hk : k < 4) (l : Lk) : ((at4 k l).findIdx? fun l => l.inb.isSome) = if l.inb.isSome then some k else none := by
  obtain ⟨s, busy, inb⟩ := l
  rcases four_k hk with rfl | rfl | rfl | rfl <;> cases inb <;> rfl
theorem whole_one (b : UInt8) : 1 < whole [b] := by
  show 1 < (if b = 0 then 9 else if b = 1 then 5 else b.toNat + 1)
  split
  · omega
  · split
    · omega
    · rename_i h0 _
      have : b.toNat ≠ 0 := fun h => h0 (UInt8.toNat_inj.1 h)
      omega
theorem whole_le (b : UInt8) : whole [b] ≤ 256 := by
  show (if b = 0 then 9 else if b = 1 then 5 else b.toNat + 1) ≤ 256
  have := b.toNat_lt
  split
  · omega
  · split <;> omega
end Nd
structure Stepped (gl : List (Nat × List D)) (k : Nat) (n : NB) (l' : Lk) (A : D) : Prop where
  fn : FnE prog gl 18 [.ptr 900 0] (NH n) (fun v H1 => v = .d A ∧ H1 = NH n.step)
  ls : n.step.ls = at4 k l'
  ok : l'.wire.ok
  fits : n.step.run = none → n.step.fits k l'
theorem nstep_fn (gl : List (Nat × List D)) (k : Nat) (hk : k < 4) (n : NB) (l : Lk) (h : n.fits k l) : ∃ l' A, Stepped gl k n l' A := by
  obtain ⟨link, buf, out, mem, ls, r⟩ := n
  obtain ⟨h1, h2, h3, h4, h5, h6, h7, h8, h9, h10⟩ := h
  dsimp only at h1 h3 h4 h5 h6 h7 h8 h9 h10
  subst h1 h5
  have hkk : ((k : Nat) : Int).toNat = k := rfl
  cases out with
  | cons o out =>
    obtain ⟨rfl, rfl⟩ := h7 (by simp)
    have e : NB.step ⟨k, [], o :: out, mem, at4 k l, none⟩ = ⟨k, [], o :: out, mem, at4 k (l.send o), none⟩ := by
      unfold NB.step
      dsimp only [Option.isSome_none]
      rw [if_neg Bool.false_ne_true, hkk, at4_modify hk]
    refine ⟨l.send o, _, by rw [e]; exact step_out gl k hk mem l [] out o h2, by rw [e], Lk.send_ok l o h2, fun _ => ?_⟩
    rw [e]
    exact ⟨rfl, Lk.send_ok l o h2, (fun _ => by simp), h4, rfl, h6, h7, h8, h9, h10⟩
  | nil =>
    have hbusy : l.busy = false := by
      cases hb : l.busy with
      | false => rfl
      | true => exact absurd rfl (h3 hb)
    have same : ∀ {link : Int}, NB.step ⟨link, buf, [], mem, at4 k l, none⟩ = ⟨link, buf, [], mem, at4 k l, none⟩ → (link = -1 ∨ link = k) → (link = -1 → buf = [] ∧ ([] : List UInt8) = []) → (link = k → ([] : List UInt8) = [] → buf ≠ []) → ∀ {A : D}, FnE prog gl 18 [.ptr 900 0] (NH ⟨link, buf, [], mem, at4 k l, none⟩) (fun v H1 => v = .d A ∧ H1 = NH ⟨link, buf, [], mem, at4 k l, none⟩) → ∃ l' A, Stepped gl k ⟨link, buf, [], mem, at4 k l, none⟩ l' A := fun {link} e h4 h8 h9 {A} hf => ⟨l, A, by rw [e]; exact hf, by rw [e], h2, fun _ => by rw [e]; exact ⟨rfl, h2, h3, h4, rfl, h6, (fun h => absurd rfl h), h8, h9, h10⟩⟩
    -- the byte that is taken
    have key : ∀ (link : Int) (i : Nat), i = k → (if link < 0 then NB.first ⟨link, buf, [], mem, at4 k l, none⟩ else some link.toNat) = some k → NB.step ⟨link, buf, [], mem, at4 k l, none⟩ = match l.take with
        | none => ⟨link, buf, [], mem, at4 k l, none⟩
        | some (l', b) => NB.fin ⟨k, buf ++ [b], [], mem, at4 k l', none⟩ := fun link i _ hf => by
      unfold NB.step
      dsimp only [Option.isSome_none]
      rw [if_neg Bool.false_ne_true, hf]
      dsimp only
      rw [show NB.at ⟨link, buf, [], mem, at4 k l, none⟩ k = l from at4_at hk l]
      cases l.take with
      | none => rfl
      | some x => dsimp only; rw [at4_set hk]; rfl
    rcases h4 with rfl | rfl
    · obtain ⟨rfl, _⟩ := h8 rfl
      have hfirst : NB.first ⟨-1, [], [], mem, at4 k l, none⟩ = if l.inb.isSome then some k else none := at4_first hk l
      cases hin : l.inb with
      | none =>
        have e : NB.step ⟨-1, [], [], mem, at4 k l, none⟩ = ⟨-1, [], [], mem, at4 k l, none⟩ := by
          rw [hin] at hfirst
          unfold NB.step
          dsimp only [Option.isSome_none]
          rw [if_neg Bool.false_ne_true, if_pos (by omega), hfirst]
          rfl
        exact same e (.inl rfl) h8 h9 (step_idle gl k hk mem l [] hin)
      | some x =>
        rw [hin] at hfirst
        have hk1 := key (-1) k rfl (by rw [if_pos (by omega), hfirst]; rfl)
        cases ht : l.take with
        | none =>
          rw [ht] at hk1
          exact same hk1 (.inl rfl) h8 h9 (step_wait1 gl k hk mem l [] x hin ht)
        | some y =>
          obtain ⟨l', b⟩ := y
          obtain ⟨q1, q2, q3⟩ := Lk.take_some ht
          rw [ht] at hk1
          dsimp only [List.nil_append] at hk1
          have hne : ¬ ([b] : List UInt8).length = whole [b] := by have := whole_one b; simp only [List.length_cons, List.length_nil]; omega
          have e2 : NB.fin ⟨k, [b], [], mem, at4 k l', none⟩ = ⟨k, [b], [], mem, at4 k l', none⟩ := if_neg hne
          rw [e2] at hk1
          refine ⟨l', _, by rw [hk1]; exact step_first gl k hk mem l l' b x hin ht h2, by rw [hk1], q3 h2, fun _ => ?_⟩
          rw [hk1]
          refine ⟨rfl, q3 h2, (fun h => by rw [q2, hbusy] at h; cases h), .inr rfl, rfl, h6, (fun h => absurd rfl h), (fun h => absurd h (by show ¬ ((k : Nat) : Int) = -1; omega)), (fun _ _ => by simp), (fun _ => whole_one b)⟩
    · have hbuf := h9 rfl rfl
      obtain ⟨x, t, rfl⟩ : ∃ x t, buf = x :: t := by
        cases buf with
        | nil => exact absurd rfl hbuf
        | cons x t => exact ⟨x, t, rfl⟩
      have hp := h10 (by simp)
      have hwx : whole (x :: t) = whole [x] := rfl
      rw [hwx] at hp
      simp only [List.length_cons] at hp
      have hk1 := key k k rfl (by rw [if_neg (by omega)]; rfl)
      cases ht : l.take with
      | none =>
        rw [ht] at hk1
        exact same hk1 (.inr rfl) h8 h9 (step_wait2 gl k hk mem l (x :: t) ht)
      | some y =>
        obtain ⟨l', b⟩ := y
        obtain ⟨q1, q2, q3⟩ := Lk.take_some ht
        rw [ht] at hk1
        dsimp only at hk1
        have hl' : l'.busy = true → ∀ o : List UInt8, o ≠ [] := fun h => by rw [q2, hbusy] at h; cases h
        by_cases hc : t.length + 2 = whole [x]
        · have e2 : NB.fin ⟨k, x :: t ++ [b], [], mem, at4 k l', none⟩ = NB.command ⟨k, x :: t ++ [b], [], mem, at4 k l', none⟩ := if_pos (by show (x :: t ++ [b]).length = whole [x]; simp; omega)
          rw [e2] at hk1
          by_cases hx0 : x = 0
          · subst hx0
            have ht7 : t.length = 7 := by have : whole [(0 : UInt8)] = 9 := rfl; omega
            obtain ⟨a0, a1, a2, a3, v0, v1, v2, rfl⟩ : ∃ a0 a1 a2 a3 v0 v1 v2, t = [a0, a1, a2, a3, v0, v1, v2] := by
              match t, ht7 with
              | [a0, a1, a2, a3, v0, v1, v2], _ => exact ⟨a0, a1, a2, a3, v0, v1, v2, rfl⟩
            have e3 : NB.command ⟨k, 0 :: [a0, a1, a2, a3, v0, v1, v2] ++ [b], [], mem, at4 k l', none⟩ = ⟨-1, [], [], setWord mem (num4 [a0, a1, a2, a3, v0, v1, v2, b]) (num4 [v0, v1, v2, b]), at4 k l', none⟩ := rfl
            rw [e3] at hk1
            refine ⟨l', _, by rw [hk1]; exact step_poke gl k hk mem l l' a0 a1 a2 a3 v0 v1 v2 b ht h2 h6, by rw [hk1], q3 h2, fun _ => ?_⟩
            rw [hk1]
            refine ⟨rfl, q3 h2, (fun h => hl' h _), .inl rfl, rfl, ?_, (fun h => absurd rfl h), (fun _ => ⟨rfl, rfl⟩), (fun h => absurd h (by show ¬ (-1 : Int) = (k : Int); omega)), (fun h => absurd rfl h)⟩
            show (setWord mem _ _).length = 1024
            unfold setWord
            split
            · unfold put
              simp only [List.length_append, List.length_take, List.length_drop, four_len]
              omega
            · exact h6
          · by_cases hx1 : x = 1
            · subst hx1
              have ht3 : t.length = 3 := by have : whole [(1 : UInt8)] = 5 := rfl; omega
              obtain ⟨a0, a1, a2, rfl⟩ : ∃ a0 a1 a2, t = [a0, a1, a2] := by
                match t, ht3 with
                | [a0, a1, a2], _ => exact ⟨a0, a1, a2, rfl⟩
              have e3 : NB.command ⟨k, 1 :: [a0, a1, a2] ++ [b], [], mem, at4 k l', none⟩ = ⟨k, [], four (wordAt mem (num4 [a0, a1, a2, b])), mem, at4 k l', none⟩ := rfl
              rw [e3] at hk1
              refine ⟨l', _, by rw [hk1]; exact step_peek gl k hk mem l l' a0 a1 a2 b ht h2 h6, by rw [hk1], q3 h2, fun _ => ?_⟩
              rw [hk1]
              exact ⟨rfl, q3 h2, (fun h => hl' h _), .inr rfl, rfl, h6, (fun _ => ⟨rfl, rfl⟩), (fun h => absurd h (by show ¬ ((k : Nat) : Int) = -1; omega)), (fun _ h => by simp [four] at h), (fun h => absurd rfl h)⟩
            · have hw : whole [x] = x.toNat + 1 := by
                show (if x = 0 then 9 else if x = 1 then 5 else x.toNat + 1) = _
                rw [if_neg hx0, if_neg hx1]
              have e3 : NB.command ⟨k, x :: t ++ [b], [], mem, at4 k l', none⟩ = ⟨k, [], [], put mem 72 (t ++ [b]), at4 k l', some (-2147483648 + 72 + (((t ++ [b]).length + 3) / 4 * 4 : Nat), -2147483648 + 16 + 4 * ((k : Nat) : Int))⟩ := by
                unfold NB.command
                dsimp only [List.cons_append]
                rw [if_neg hx0, if_neg hx1]
              rw [e3] at hk1
              have n0 : x.toNat ≠ 0 := fun h => hx0 (UInt8.toNat_inj.1 h)
              have n1 : x.toNat ≠ 1 := fun h => hx1 (UInt8.toNat_inj.1 h)
              refine ⟨l', _, by rw [hk1]; exact step_boot gl k hk mem l l' x b t ht h2 h6 n0 n1 (by simp; omega), by rw [hk1], q3 h2, fun h => ?_⟩
              rw [hk1] at h
              cases h
        · have e2 : NB.fin ⟨k, x :: t ++ [b], [], mem, at4 k l', none⟩ = ⟨k, x :: (t ++ [b]), [], mem, at4 k l', none⟩ := if_neg (by show ¬ (x :: t ++ [b]).length = whole [x]; simp; omega)
          rw [e2] at hk1
          have hle := whole_le x
          refine ⟨l', _, by rw [hk1]; exact step_more gl k hk mem l l' b x t ht h2 hc (by omega), by rw [hk1], q3 h2, fun _ => ?_⟩
          rw [hk1]
          refine ⟨rfl, q3 h2, (fun h => hl' h _), .inr rfl, rfl, h6, (fun h => absurd rfl h), (fun h => absurd h (by show ¬ ((k : Nat) : Int) = -1; omega)), (fun _ _ => by simp), (fun _ => ?_)⟩
          show (x :: (t ++ [b])).length < whole [x]
          simp only [List.length_cons, List.length_append, List.length_nil]
          omega
end
end Go.Proofs.YtjhbglklcddekaaGreatDoor
