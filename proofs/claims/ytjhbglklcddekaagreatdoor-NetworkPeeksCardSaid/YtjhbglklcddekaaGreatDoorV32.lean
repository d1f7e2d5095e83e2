/- Parts: N33, NW1, NW2, NW3. -/
import Derived.Test.YtjhbglklcddekaaGreatDoorV26
import Derived.Test.YtjhbglklcddekaaGreatDoorV28
import Derived.Test.YtjhbglklcddekaaGreatDoorV14
import Derived.Test.YtjhbglklcddekaaGreatDoorV29
set_option linter.all false
set_option maxRecDepth 100000
set_option maxHeartbeats 16000000
namespace Go.Proofs.YtjhbglklcddekaaGreatDoor
open Go.RowKit Go.Proofs.Tryz
section
open Go.RowKit Nd
structure Stept (gl : List (Nat × List D)) (k : Nat) (n : NB) (l' : Lk) : Prop where
  fn : FnE prog gl 18 [.ptr 900 0] (NH n) (fun v H1 => v = .d (.list 0 []) ∧ H1 = NH n.step)
  ls : n.step.ls = at4 k l'
  ok : l'.wire.ok
  fits : n.step.run = none → n.step.fits k l'
theorem nstep_wait (gl : List (Nat × List D)) (k : Nat) (hk : k < 4) (n : NB) (l : Lk) (h : n.fits k l) (hr : n.step.run = none) : ∃ l', Stept gl k n l' := by
  obtain ⟨link, buf, out, mem, ls, r⟩ := n
  obtain ⟨h1, h2, h3, h4, h5, h6, h7, h8, h9, h10⟩ := h
  dsimp only at h1 h3 h4 h5 h6 h7 h8 h9 h10
  subst h1 h5
  have hkk : ((k : Nat) : Int).toNat = k := rfl
  cases out with
  | cons o out =>
    obtain ⟨rfl, rfl⟩ := h7 (by simp)
    have e : NB.step ⟨k, [], o :: out, mem, at4 k l, none⟩ = ⟨k, [], o :: out, mem, at4 k (l.send o), none⟩ := by
      unfold NB.step
      dsimp only [Option.isSome_none]
      rw [if_neg Bool.false_ne_true, hkk, at4_modify hk]
    refine ⟨l.send o, by rw [e]; exact step_out gl k hk mem l [] out o h2, by rw [e], Lk.send_ok l o h2, fun _ => ?_⟩
    rw [e]
    exact ⟨rfl, Lk.send_ok l o h2, (fun _ => by simp), h4, rfl, h6, h7, h8, h9, h10⟩
  | nil =>
    have hbusy : l.busy = false := by
      cases hb : l.busy with
      | false => rfl
      | true => exact absurd rfl (h3 hb)
    have same : ∀ {link : Int}, NB.step ⟨link, buf, [], mem, at4 k l, none⟩ = ⟨link, buf, [], mem, at4 k l, none⟩ → (link = -1 ∨ link = k) → (link = -1 → buf = [] ∧ ([] : List UInt8) = []) → (link = k → ([] : List UInt8) = [] → buf ≠ []) → FnE prog gl 18 [.ptr 900 0] (NH ⟨link, buf, [], mem, at4 k l, none⟩) (fun v H1 => v = .d (.list 0 []) ∧ H1 = NH ⟨link, buf, [], mem, at4 k l, none⟩) → ∃ l', Stept gl k ⟨link, buf, [], mem, at4 k l, none⟩ l' := fun {link} e h4 h8 h9 hf => ⟨l, by rw [e]; exact hf, by rw [e], h2, fun _ => by rw [e]; exact ⟨rfl, h2, h3, h4, rfl, h6, (fun h => absurd rfl h), h8, h9, h10⟩⟩
    -- the byte that is taken
    have key : ∀ (link : Int) (i : Nat), i = k → (if link < 0 then NB.first ⟨link, buf, [], mem, at4 k l, none⟩ else some link.toNat) = some k → NB.step ⟨link, buf, [], mem, at4 k l, none⟩ = match l.take with
        | none => ⟨link, buf, [], mem, at4 k l, none⟩
        | some (l', b) => NB.fin ⟨k, buf ++ [b], [], mem, at4 k l', none⟩ := fun link i _ hf => by
      unfold NB.step
      dsimp only [Option.isSome_none]
      rw [if_neg Bool.false_ne_true, hf]
      dsimp only
      rw [show NB.at ⟨link, buf, [], mem, at4 k l, none⟩ k = l from at4_at hk l]
      cases l.take with
      | none => rfl
      | some x => dsimp only; rw [at4_set hk]; rfl
    rcases h4 with rfl | rfl
    · obtain ⟨rfl, _⟩ := h8 rfl
      have hfirst : NB.first ⟨-1, [], [], mem, at4 k l, none⟩ = if l.inb.isSome then some k else none := at4_first hk l
      cases hin : l.inb with
      | none =>
        have e : NB.step ⟨-1, [], [], mem, at4 k l, none⟩ = ⟨-1, [], [], mem, at4 k l, none⟩ := by
          rw [hin] at hfirst
          unfold NB.step
          dsimp only [Option.isSome_none]
          rw [if_neg Bool.false_ne_true, if_pos (by omega), hfirst]
          rfl
        exact same e (.inl rfl) h8 h9 (step_idle gl k hk mem l [] hin)
      | some x =>
        rw [hin] at hfirst
        have hk1 := key (-1) k rfl (by rw [if_pos (by omega), hfirst]; rfl)
        cases ht : l.take with
        | none =>
          rw [ht] at hk1
          exact same hk1 (.inl rfl) h8 h9 (step_wait1 gl k hk mem l [] x hin ht)
        | some y =>
          obtain ⟨l', b⟩ := y
          obtain ⟨q1, q2, q3⟩ := Lk.take_some ht
          rw [ht] at hk1
          dsimp only [List.nil_append] at hk1
          have hne : ¬ ([b] : List UInt8).length = whole [b] := by have := whole_one b; simp only [List.length_cons, List.length_nil]; omega
          have e2 : NB.fin ⟨k, [b], [], mem, at4 k l', none⟩ = ⟨k, [b], [], mem, at4 k l', none⟩ := if_neg hne
          rw [e2] at hk1
          refine ⟨l', by rw [hk1]; exact step_first gl k hk mem l l' b x hin ht h2, by rw [hk1], q3 h2, fun _ => ?_⟩
          rw [hk1]
          refine ⟨rfl, q3 h2, (fun h => by rw [q2, hbusy] at h; cases h), .inr rfl, rfl, h6, (fun h => absurd rfl h), (fun h => absurd h (by show ¬ ((k : Nat) : Int) = -1; omega)), (fun _ _ => by simp), (fun _ => whole_one b)⟩
    · have hbuf := h9 rfl rfl
      obtain ⟨x, t, rfl⟩ : ∃ x t, buf = x :: t := by
        cases buf with
        | nil => exact absurd rfl hbuf
        | cons x t => exact ⟨x, t, rfl⟩
      have hp := h10 (by simp)
      have hwx : whole (x :: t) = whole [x] := rfl
      rw [hwx] at hp
      simp only [List.length_cons] at hp
      have hk1 := key k k rfl (by rw [if_neg (by omega)]; rfl)
      cases ht : l.take with
      | none =>
        rw [ht] at hk1
        exact same hk1 (.inr rfl) h8 h9 (step_wait2 gl k hk mem l (x :: t) ht)
      | some y =>
        obtain ⟨l', b⟩ := y
        obtain ⟨q1, q2, q3⟩ := Lk.take_some ht
        rw [ht] at hk1
        dsimp only at hk1
        have hl' : l'.busy = true → ∀ o : List UInt8, o ≠ [] := fun h => by rw [q2, hbusy] at h; cases h
        by_cases hc : t.length + 2 = whole [x]
        · have e2 : NB.fin ⟨k, x :: t ++ [b], [], mem, at4 k l', none⟩ = NB.command ⟨k, x :: t ++ [b], [], mem, at4 k l', none⟩ := if_pos (by show (x :: t ++ [b]).length = whole [x]; simp; omega)
          rw [e2] at hk1
          by_cases hx0 : x = 0
          · subst hx0
            have ht7 : t.length = 7 := by have : whole [(0 : UInt8)] = 9 := rfl; omega
            obtain ⟨a0, a1, a2, a3, v0, v1, v2, rfl⟩ : ∃ a0 a1 a2 a3 v0 v1 v2, t = [a0, a1, a2, a3, v0, v1, v2] := by
              match t, ht7 with
              | [a0, a1, a2, a3, v0, v1, v2], _ => exact ⟨a0, a1, a2, a3, v0, v1, v2, rfl⟩
            have e3 : NB.command ⟨k, 0 :: [a0, a1, a2, a3, v0, v1, v2] ++ [b], [], mem, at4 k l', none⟩ = ⟨-1, [], [], setWord mem (num4 [a0, a1, a2, a3, v0, v1, v2, b]) (num4 [v0, v1, v2, b]), at4 k l', none⟩ := rfl
            rw [e3] at hk1
            refine ⟨l', by rw [hk1]; exact step_poke gl k hk mem l l' a0 a1 a2 a3 v0 v1 v2 b ht h2 h6, by rw [hk1], q3 h2, fun _ => ?_⟩
            rw [hk1]
            refine ⟨rfl, q3 h2, (fun h => hl' h _), .inl rfl, rfl, ?_, (fun h => absurd rfl h), (fun _ => ⟨rfl, rfl⟩), (fun h => absurd h (by show ¬ (-1 : Int) = (k : Int); omega)), (fun h => absurd rfl h)⟩
            show (setWord mem _ _).length = 1024
            unfold setWord
            split
            · unfold put
              simp only [List.length_append, List.length_take, List.length_drop, four_len]
              omega
            · exact h6
          · by_cases hx1 : x = 1
            · subst hx1
              have ht3 : t.length = 3 := by have : whole [(1 : UInt8)] = 5 := rfl; omega
              obtain ⟨a0, a1, a2, rfl⟩ : ∃ a0 a1 a2, t = [a0, a1, a2] := by
                match t, ht3 with
                | [a0, a1, a2], _ => exact ⟨a0, a1, a2, rfl⟩
              have e3 : NB.command ⟨k, 1 :: [a0, a1, a2] ++ [b], [], mem, at4 k l', none⟩ = ⟨k, [], four (wordAt mem (num4 [a0, a1, a2, b])), mem, at4 k l', none⟩ := rfl
              rw [e3] at hk1
              refine ⟨l', by rw [hk1]; exact step_peek gl k hk mem l l' a0 a1 a2 b ht h2 h6, by rw [hk1], q3 h2, fun _ => ?_⟩
              rw [hk1]
              exact ⟨rfl, q3 h2, (fun h => hl' h _), .inr rfl, rfl, h6, (fun _ => ⟨rfl, rfl⟩), (fun h => absurd h (by show ¬ ((k : Nat) : Int) = -1; omega)), (fun _ h => by simp [four] at h), (fun h => absurd rfl h)⟩
            · have hw : whole [x] = x.toNat + 1 := by
                show (if x = 0 then 9 else if x = 1 then 5 else x.toNat + 1) = _
                rw [if_neg hx0, if_neg hx1]
              have e3 : NB.command ⟨k, x :: t ++ [b], [], mem, at4 k l', none⟩ = ⟨k, [], [], put mem 72 (t ++ [b]), at4 k l', some (-2147483648 + 72 + (((t ++ [b]).length + 3) / 4 * 4 : Nat), -2147483648 + 16 + 4 * ((k : Nat) : Int))⟩ := by
                unfold NB.command
                dsimp only [List.cons_append]
                rw [if_neg hx0, if_neg hx1]
              rw [e3] at hk1
              have n0 : x.toNat ≠ 0 := fun h => hx0 (UInt8.toNat_inj.1 h)
              have n1 : x.toNat ≠ 1 := fun h => hx1 (UInt8.toNat_inj.1 h)
              rw [hk1] at hr
              cases hr
        · have e2 : NB.fin ⟨k, x :: t ++ [b], [], mem, at4 k l', none⟩ = ⟨k, x :: (t ++ [b]), [], mem, at4 k l', none⟩ := if_neg (by show ¬ (x :: t ++ [b]).length = whole [x]; simp; omega)
          rw [e2] at hk1
          have hle := whole_le x
          refine ⟨l', by rw [hk1]; exact step_more gl k hk mem l l' b x t ht h2 hc (by omega), by rw [hk1], q3 h2, fun _ => ?_⟩
          rw [hk1]
          refine ⟨rfl, q3 h2, (fun h => hl' h _), .inr rfl, rfl, h6, (fun h => absurd rfl h), (fun h => absurd h (by show ¬ ((k : Nat) : Int) = -1; omega)), (fun _ _ => by simp), (fun _ => ?_)⟩
          show (x :: (t ++ [b])).length < whole [x]
          simp only [List.length_cons, List.length_append, List.length_nil]
          omega
end
section
def qnw1_0 : List Nat := [0, 2, 3, 4, 5, 6, 15, 31]
def qnw1_1 : List Nat := [0, 2, 3, 4, 5, 6, 7, 32, 50]
def qnw1_2 : Plan := lin [0, 4, 8, 16, 20, 24, 13, 29, 32, 36, 40, 47, 48, 52, 59, 60, 64, 71]
def qnw1_3 : Plan := lin [0, 4, 8, 12, 20, 17, 25, 30, 35, 36, 40, 47]
open Go.RowKit Nd
namespace Nd
def Ho.take (h : Ho) : Ho :=
  if h.busy then h else match h.give with
  | b :: g => if h.en.data.isSome then h else { h with en := { h.en with data := some b }, give := g, busy := true }
  | [] => h
def Ho.hears (h : Ho) : Heard → Ho
  | .ack => { h with busy := false }
  | .byte b => { h with got := h.got ++ [b], en := if h.en.ack then h.en else { h.en with ack := true } }
  | _ => h
def txH (s : Se) : D := match s.tx with
  | b :: _ => .list 5 [actA 7 0 (if b then 1 else 0)]
  | [] => if s.ack then .list 5 [actA 7 0 1] else match s.data with
    | some b => .list 5 [actA 4 0 b.toNat, actA 7 0 1]
    | none => .list 5 []
def rxH : Heard → D
  | .ack => .list 5 [actA 6 0 0]
  | .byte b => .list 5 [actA 5 0 b.toNat]
  | _ => .list 5 []
theorem Ho.take_ok (h : Ho) (hok : h.en.ok) : h.take.en.ok := by
  unfold Ho.take
  split
  · exact hok
  · split
    · split
      · exact hok
      · exact ⟨hok.txl, hok.last, hok.first, hok.rxl, hok.rx0, hok.rx1⟩
    · exact hok
theorem Ho.hears_ok (h : Ho) (hd : Heard) (hok : h.en.ok) : (h.hears hd).en.ok := by
  cases hd with
  | byte b =>
    show Se.ok (if h.en.ack then h.en else { h.en with ack := true })
    split
    · exact hok
    · exact ⟨hok.txl, hok.last, hok.first, hok.rxl, hok.rx0, hok.rx1⟩
  | _ => exact hok
end Nd
attribute [local irreducible] TR TC
theorem htake_fn (gl : List (Nat × List D)) (h : Ho) (hok : h.en.ok) : FnE prog gl 64 [.ptr 910 0] (HH h) (fun v H1 => v = .tup [] ∧ H1 = HH h.take) := by
  have c1 := ssend_fn gl h.en
  obtain ⟨⟨tx, ack, data, rx⟩, give, got, busy⟩ := h
  unfold HH
  simp only [hostC] at *
  (refine y_entere func64 ntmps64 results64 fun w M E b0 => ?_)
  refine tc_wk (wk_hbox_out (n := 910) (q := 911) rfl rfl) ?_
  simp only [List.set_cons_succ, List.set_cons_zero]
  cases busy with
  | true =>
    (repeat' first | refine yyp ?_; try refine s_bu ?_ ?_ <;> intro hb | refine yy ?_ | refine at_nil ?_; refine z_nil qnw1_0 ?_ | (apply tc_mid (x := .region 1 _ _); focus ((refine tc_at 1 ?_; refine z_draw [15] (linT [0, 4, 8, 16, 20, 24, 13, 29, 32, 37] (.two 10 (lin [44, 48, 52, 58, 63, 64]) 14 (lin [42, 44, 48, 52, 63, 64]))) ?_); (repeat' (first | refine tr_at 2 ?_; (refine z_alloc 2 ?_))); (all_goals first | exact Wk.refl _ _ | exact y_wk); done)) | refine tc_seq fun K hK => ?_ | refine tc_at 1 ?_; refine z_draw [15] (linT [0, 4, 8, 16, 20, 24, 13, 29, 32, 37] (.two 10 (lin [44, 48, 52, 58, 63, 64]) 14 (lin [42, 44, 48, 52, 63, 64]))) ?_ | refine tc_at 3 ?_; refine z_draw [11, 14, 17] qnw1_2 ?_ | apply_assumption -exfalso -symm)
    refine tc_wk (wk_hbox_in (n := 910) (q := 911) (i := 8) rfl rfl rfl rfl (by (repeat (first | exact Drop.nil | apply Drop.drop rfl | apply Drop.take rfl)); fail_if_success intros) rfl) ?_
    (refine tc_ret (y_rete ⟨?_, rfl⟩))
    rfl
  | false =>
    cases give with
    | nil =>
      (repeat' first | refine yyp ?_; try refine s_bu ?_ ?_ <;> intro hb | refine yy ?_ | refine yyc ?_ | refine at_nil ?_; refine z_nil qnw1_0 ?_ | (apply tc_mid (x := .region 1 _ _); focus ((refine tc_at 1 ?_; refine z_draw [15] (linT [0, 4, 8, 16, 20, 24, 13, 29, 32, 37] (.two 10 (lin [44, 48, 52, 58, 63, 64]) 14 (lin [42, 44, 48, 52, 63, 64]))) ?_); (repeat' (first | refine tr_at 2 ?_; (refine z_alloc 2 ?_))); (all_goals first | exact Wk.refl _ _ | exact y_wk); done)) | refine tc_seq fun K hK => ?_ | refine tc_at 1 ?_; refine z_draw [15] (linT [0, 4, 8, 16, 20, 24, 13, 29, 32, 37] (.two 10 (lin [44, 48, 52, 58, 63, 64]) 14 (lin [42, 44, 48, 52, 63, 64]))) ?_ | refine tc_at 3 ?_; refine z_draw [11, 14, 17] qnw1_2 ?_ | apply_assumption -exfalso -symm)
      refine tc_wk (wk_hbox_in (n := 910) (q := 911) (i := 8) rfl rfl rfl rfl (by (repeat (first | exact Drop.nil | apply Drop.drop rfl | apply Drop.take rfl)); fail_if_success intros) rfl) ?_
      (refine tc_ret (y_rete ⟨?_, rfl⟩))
      rfl
    | cons b g =>
      have c1 := c1 b hok
      have hdg := dBs_len g
      have hb : b.toNat < 256 := b.toNat_lt
      have eg : ((dB b :: dBs g).drop 1).take ((dB b :: dBs g).length - 1) = dBs g := by simp
      cases data
      all_goals
        simp only [Option.isSome_none, Option.isSome_some, Bool.false_eq_true, if_true, if_false, dSe, se0, num, bD_none, bD_some, List.length_nil] at c1
        simp only [dBs_cons]
        refine tc_endsW ?_
        (repeat' first | refine yyp ?_; try refine s_bu ?_ ?_ <;> intro hb | refine yy ?_ | refine yyc ?_ | refine at_nil ?_; refine z_nil qnw1_0 ?_ | (apply tc_mid (x := .region 1 _ _); focus ((refine tc_at 1 ?_; refine z_draw [15] (linT [0, 4, 8, 16, 20, 24, 13, 29, 32, 37] (.two 10 (lin [44, 48, 52, 58, 63, 64]) 14 (lin [42, 44, 48, 52, 63, 64]))) ?_); (repeat' (first | refine tr_at 2 ?_; (refine z_alloc 1002 ?_) | refine yyp ?_ | refine yy ?_ | refine at_call 94 ?_; refine y_call (hc := c1) ?_ | refine at_nil ?_; refine z_nil qnw1_0 ?_ | refine tr_two ?_ ?_)); (all_goals first | exact Wk.refl _ _ | exact y_wk); done)) | refine tc_seq fun K hK => ?_ | refine tc_at 1 ?_; refine z_draw [15] (linT [0, 4, 8, 16, 20, 24, 13, 29, 32, 37] (.two 10 (lin [44, 48, 52, 58, 63, 64]) 14 (lin [42, 44, 48, 52, 63, 64]))) ?_ | refine tc_at 3 ?_; refine z_draw [11, 14, 17] qnw1_2 ?_ | apply_assumption -exfalso -symm)
        try rw [eg]
        refine endsW (wk_hbox_in (n := 910) (q := 911) (i := 8) rfl rfl rfl rfl (by (repeat (first | exact Drop.nil | apply Drop.drop rfl | apply Drop.take rfl)); fail_if_success intros) rfl) ?_
        exact y_endn ⟨rfl, rfl⟩
theorem htx_bit1 (gl : List (Nat × List D)) (t : List Bool) (ack : Bool) (data : Option UInt8) (rx : List Bool) (give got : List UInt8) (busy : Bool) (hok : Se.ok ⟨true :: t, ack, data, rx⟩) : FnE prog gl 331 [.ptr 910 0] (HH ⟨⟨true :: t, ack, data, rx⟩, give, got, busy⟩) (fun v H1 => v = .tup [.d (.int .i64 1), .d (.list 5 [actA 7 0 1])] ∧ H1 = HH ⟨⟨t, ack, data, rx⟩, give, got, busy⟩) := by
  have c1 := stx_fn gl _ hok
  rw [show Se.next ⟨true :: t, ack, data, rx⟩ = (⟨t, ack, data, rx⟩, true) from rfl] at c1
  simp only [dSe, List.length_cons, List.length_nil, Bool.false_eq_true, if_true, if_false, Option.isSome_some, Option.isSome_none, bD_some, bD_none] at c1
  unfold HH
  simp only [hostC, List.length_cons, List.length_nil, Option.isSome_some, Option.isSome_none, bD_some, bD_none]
  (refine y_entere func331 ntmps331 results331 fun w M E b0 => ?_)
  refine tc_wk (wk_hbox_out (n := 910) (q := 911) rfl rfl) ?_
  simp only [List.set_cons_succ, List.set_cons_zero]
  (repeat' first | refine tr_at 4 ?_; (refine z_alloc 1004 ?_) | refine tr_at 5 ?_; (refine z_alloc 1005 ?_) | refine tr_at 55 ?_; (refine z_lit 1055 ?_) | refine tr_at 56 ?_; refine z_append0 1056 ?_ | refine yyp ?_; try refine s_bu ?_ ?_ <;> intro hb | refine yy ?_ | refine at_call 50 ?_; refine y_call (hc := c1) ?_ | refine at_nil ?_; refine z_nil qnw1_1 ?_ | refine tc_seq fun K hK => ?_ | apply_assumption -exfalso -symm)
  all_goals
    refine tc_wk (wk_hbox_in (n := 910) (q := 911) (i := 8) rfl rfl rfl rfl (by (repeat (first | exact Drop.nil | apply Drop.drop rfl | apply Drop.take rfl)); fail_if_success intros) rfl) ?_
    (refine tc_ret (y_rete ⟨?_, rfl⟩))
    rfl
theorem htx_bit0 (gl : List (Nat × List D)) (t : List Bool) (ack : Bool) (data : Option UInt8) (rx : List Bool) (give got : List UInt8) (busy : Bool) (hok : Se.ok ⟨false :: t, ack, data, rx⟩) : FnE prog gl 331 [.ptr 910 0] (HH ⟨⟨false :: t, ack, data, rx⟩, give, got, busy⟩) (fun v H1 => v = .tup [.d (.int .i64 0), .d (.list 5 [actA 7 0 0])] ∧ H1 = HH ⟨⟨t, ack, data, rx⟩, give, got, busy⟩) := by
  have c1 := stx_fn gl _ hok
  rw [show Se.next ⟨false :: t, ack, data, rx⟩ = (⟨t, ack, data, rx⟩, false) from rfl] at c1
  simp only [dSe, List.length_cons, List.length_nil, Bool.false_eq_true, if_true, if_false, Option.isSome_some, Option.isSome_none, bD_some, bD_none] at c1
  unfold HH
  simp only [hostC, List.length_cons, List.length_nil, Option.isSome_some, Option.isSome_none, bD_some, bD_none]
  (refine y_entere func331 ntmps331 results331 fun w M E b0 => ?_)
  refine tc_wk (wk_hbox_out (n := 910) (q := 911) rfl rfl) ?_
  simp only [List.set_cons_succ, List.set_cons_zero]
  (repeat' first | refine tr_at 4 ?_; (refine z_alloc 1004 ?_) | refine tr_at 5 ?_; (refine z_alloc 1005 ?_) | refine tr_at 55 ?_; (refine z_lit 1055 ?_) | refine tr_at 56 ?_; refine z_append0 1056 ?_ | refine yyp ?_; try refine s_bu ?_ ?_ <;> intro hb | refine yy ?_ | refine at_call 50 ?_; refine y_call (hc := c1) ?_ | refine at_nil ?_; refine z_nil qnw1_1 ?_ | refine tc_seq fun K hK => ?_ | apply_assumption -exfalso -symm)
  all_goals
    refine tc_wk (wk_hbox_in (n := 910) (q := 911) (i := 8) rfl rfl rfl rfl (by (repeat (first | exact Drop.nil | apply Drop.drop rfl | apply Drop.take rfl)); fail_if_success intros) rfl) ?_
    (refine tc_ret (y_rete ⟨?_, rfl⟩))
    rfl
theorem htx_ack (gl : List (Nat × List D)) (data : Option UInt8) (rx : List Bool) (give got : List UInt8) (busy : Bool) (hok : Se.ok ⟨[], true, data, rx⟩) : FnE prog gl 331 [.ptr 910 0] (HH ⟨⟨[], true, data, rx⟩, give, got, busy⟩) (fun v H1 => v = .tup [.d (.int .i64 1), .d (.list 5 [actA 7 0 1])] ∧ H1 = HH ⟨⟨[false], false, data, rx⟩, give, got, busy⟩) := by
  have c1 := stx_fn gl _ hok
  rw [show Se.next ⟨[], true, data, rx⟩ = (⟨[false], false, data, rx⟩, true) from rfl] at c1
  simp only [dSe, List.length_cons, List.length_nil, Bool.false_eq_true, if_true, if_false, Option.isSome_some, Option.isSome_none, bD_some, bD_none] at c1
  unfold HH
  simp only [hostC, List.length_cons, List.length_nil, Option.isSome_some, Option.isSome_none, bD_some, bD_none]
  (refine y_entere func331 ntmps331 results331 fun w M E b0 => ?_)
  refine tc_wk (wk_hbox_out (n := 910) (q := 911) rfl rfl) ?_
  simp only [List.set_cons_succ, List.set_cons_zero]
  (repeat' first | refine tr_at 4 ?_; (refine z_alloc 1004 ?_) | refine tr_at 5 ?_; (refine z_alloc 1005 ?_) | refine tr_at 55 ?_; (refine z_lit 1055 ?_) | refine tr_at 56 ?_; refine z_append0 1056 ?_ | refine yyp ?_; try refine s_bu ?_ ?_ <;> intro hb | refine yy ?_ | refine at_call 50 ?_; refine y_call (hc := c1) ?_ | refine at_nil ?_; refine z_nil qnw1_1 ?_ | refine tc_seq fun K hK => ?_ | apply_assumption -exfalso -symm)
  all_goals
    refine tc_wk (wk_hbox_in (n := 910) (q := 911) (i := 8) rfl rfl rfl rfl (by (repeat (first | exact Drop.nil | apply Drop.drop rfl | apply Drop.take rfl)); fail_if_success intros) rfl) ?_
    (refine tc_ret (y_rete ⟨?_, rfl⟩))
    rfl
theorem htx_none (gl : List (Nat × List D)) (rx : List Bool) (give got : List UInt8) (busy : Bool) (hok : Se.ok ⟨[], false, none, rx⟩) : FnE prog gl 331 [.ptr 910 0] (HH ⟨⟨[], false, none, rx⟩, give, got, busy⟩) (fun v H1 => v = .tup [.d (.int .i64 0), .d (.list 5 [])] ∧ H1 = HH ⟨⟨[], false, none, rx⟩, give, got, busy⟩) := by
  have c1 := stx_fn gl _ hok
  rw [show Se.next ⟨[], false, none, rx⟩ = (⟨[], false, none, rx⟩, false) from rfl] at c1
  simp only [dSe, List.length_cons, List.length_nil, Bool.false_eq_true, if_true, if_false, Option.isSome_some, Option.isSome_none, bD_some, bD_none] at c1
  unfold HH
  simp only [hostC, List.length_cons, List.length_nil, Option.isSome_some, Option.isSome_none, bD_some, bD_none]
  (refine y_entere func331 ntmps331 results331 fun w M E b0 => ?_)
  refine tc_wk (wk_hbox_out (n := 910) (q := 911) rfl rfl) ?_
  simp only [List.set_cons_succ, List.set_cons_zero]
  (repeat' first | refine tr_at 4 ?_; (refine z_alloc 1004 ?_) | refine tr_at 5 ?_; (refine z_alloc 1005 ?_) | refine yyp ?_; try refine s_bu ?_ ?_ <;> intro hb | refine yy ?_ | refine at_call 50 ?_; refine y_call (hc := c1) ?_ | refine at_nil ?_; refine z_nil qnw1_1 ?_ | refine tc_seq fun K hK => ?_ | apply_assumption -exfalso -symm)
  all_goals
    refine tc_wk (wk_hbox_in (n := 910) (q := 911) (i := 8) rfl rfl rfl rfl (by (repeat (first | exact Drop.nil | apply Drop.drop rfl | apply Drop.take rfl)); fail_if_success intros) rfl) ?_
    (refine tc_ret (y_rete ⟨?_, rfl⟩))
    rfl
theorem htx_data (gl : List (Nat × List D)) (b : UInt8) (rx : List Bool) (give got : List UInt8) (busy : Bool) (hok : Se.ok ⟨[], false, some b, rx⟩) : FnE prog gl 331 [.ptr 910 0] (HH ⟨⟨[], false, some b, rx⟩, give, got, busy⟩) (fun v H1 => v = .tup [.d (.int .i64 1), .d (.list 5 [actA 4 0 b.toNat, actA 7 0 1])] ∧ H1 = HH ⟨⟨rest b, false, none, rx⟩, give, got, busy⟩) := by
  have c1 := stx_fn gl _ hok
  rw [show Se.next ⟨[], false, some b, rx⟩ = (⟨rest b, false, none, rx⟩, true) from rfl] at c1
  have hb : b.toNat < 256 := b.toNat_lt
  simp only [dSe, List.length_cons, List.length_nil, Bool.false_eq_true, if_true, if_false, Option.isSome_some, Option.isSome_none, bD_some, bD_none] at c1
  unfold HH
  simp only [hostC, List.length_cons, List.length_nil, Option.isSome_some, Option.isSome_none, bD_some, bD_none]
  (refine y_entere func331 ntmps331 results331 fun w M E b0 => ?_)
  refine tc_wk (wk_hbox_out (n := 910) (q := 911) rfl rfl) ?_
  simp only [List.set_cons_succ, List.set_cons_zero]
  (repeat' first | refine tr_at 4 ?_; (refine z_alloc 1004 ?_) | refine tr_at 5 ?_; (refine z_alloc 1005 ?_) | refine tr_at 38 ?_; (refine z_lit 1038 ?_) | refine tr_at 39 ?_; refine z_append0 1039 ?_ | refine tr_at 55 ?_; (refine z_lit 1055 ?_) | refine yyp ?_; try refine s_bu ?_ ?_ <;> intro hb | refine yy ?_ | refine at_call 50 ?_; refine y_call (hc := c1) ?_ | (refine at_append ?_; first | (refine z_append (fun kv => ?_)) | (refine z_append_suf (fun sx sp kv hsx hsp hsl => ?_))) | refine at_nil ?_; refine z_nil qnw1_1 ?_ | refine tc_seq fun K hK => ?_ | apply_assumption -exfalso -symm)
  all_goals
    refine tc_wk (wk_hbox_in (n := 910) (q := 911) (i := 8) rfl rfl rfl rfl (by (repeat (first | exact Drop.nil | apply Drop.drop rfl | apply Drop.take rfl)); fail_if_success intros) rfl) ?_
    (refine tc_ret (y_rete ⟨?_, rfl⟩))
    rfl
theorem htx_fn (gl : List (Nat × List D)) (h : Ho) (hok : h.en.ok) : FnE prog gl 331 [.ptr 910 0] (HH h) (fun v H1 => v = .tup [.d (.int .i64 (if h.en.next.2 then 1 else 0)), .d (txH h.en)] ∧ H1 = HH { h with en := h.en.next.1 }) := by
  obtain ⟨⟨tx, ack, data, rx⟩, give, got, busy⟩ := h
  match tx, ack, data, hok with
  | true :: t, ack, data, hok => exact htx_bit1 gl t ack data rx give got busy hok
  | false :: t, ack, data, hok => exact htx_bit0 gl t ack data rx give got busy hok
  | [], true, data, hok => exact htx_ack gl data rx give got busy hok
  | [], false, none, hok => exact htx_none gl rx give got busy hok
  | [], false, some b, hok => exact htx_data gl b rx give got busy hok
theorem hrx_fn (gl : List (Nat × List D)) (h : Ho) (bit : Bool) (hok : h.en.ok) (hg : h.got.length ≤ 1000000) : FnE prog gl 330 [.ptr 910 0, .d (.int .i64 (if bit then 1 else 0))] (HH h) (fun v H1 => v = .d (rxH (h.en.hear bit).2) ∧ H1 = HH (Ho.hears { h with en := (h.en.hear bit).1 } (h.en.hear bit).2)) := by
  have c1 := srx_fn gl h.en bit hok
  have hok3 := hok.hear bit
  obtain ⟨en, give, got, busy⟩ := h
  dsimp only at *
  obtain ⟨⟨en3, hd⟩, hq3⟩ : ∃ x, en.hear bit = x := ⟨_, rfl⟩
  rw [hq3] at c1 hok3 ⊢
  have c2 := sack_fn gl en3 hok3
  have hlg : (dBs got).length = got.length := dBs_len _
  obtain ⟨tx, ack, data, rx⟩ := en
  obtain ⟨tx3, ack3, data3, rx3⟩ := en3
  unfold HH
  simp only [hostC, dSe] at *
  generalize (if bit then (1 : Int) else 0) = bi at *
  (refine y_entere func330 ntmps330 results330 fun w M E b0 => ?_)
  refine tc_wk (wk_hbox_out (n := 910) (q := 911) rfl rfl) ?_
  simp only [List.set_cons_succ, List.set_cons_zero]
  cases hd with
  | byte x =>
    have hx : x.toNat < 256 := x.toNat_lt
    have ea : dBs got ++ [dB x] = dBs (got ++ [x]) := by simp [dBs]
    cases ack3
    all_goals
      simp only [dHeard, Bool.false_eq_true, if_true, if_false] at c1 c2
      try simp only [dSe, se0, num, List.length_nil, Option.isSome_none, bD_none] at c2
      (repeat' first | refine tr_at 5 ?_; (refine z_alloc 1005 ?_) | refine tr_at 6 ?_; (refine z_alloc 1006 ?_) | refine tr_at 33 ?_; (refine z_lit 1033 ?_) | refine tr_at 7 ?_; (refine z_alloc 1007 ?_) | refine tr_at 55 ?_; (refine z_lit 1055 ?_) | refine yyp ?_; try refine s_bu ?_ ?_ <;> intro hb | refine yy ?_ | refine at_call 59 ?_; refine y_call (hc := c1) ?_ | (refine at_append ?_; first | (refine z_append (fun kv => ?_)) | (refine z_append_suf (fun sx sp kv hsx hsp hsl => ?_))) | refine at_call 101 ?_; refine y_call (hc := c2) ?_ | refine at_nil ?_; refine z_nil [0, 1, 4, 5, 6, 7, 8, 23, 24, 46, 56] ?_ | refine tc_seq fun K hK => ?_ | refine tc_at 5 ?_; refine z_draw [8, 11] qnw1_3 ?_ | apply_assumption -exfalso -symm)
      rw [show dBs got ++ [D.int .u8 ((x.toNat : Nat) : Int)] = dBs (got ++ [x]) from ea]
      refine tc_wk (wk_hbox_in (n := 910) (q := 911) (i := 8) rfl rfl rfl rfl (by (repeat (first | exact Drop.nil | apply Drop.drop rfl | apply Drop.take rfl)); fail_if_success intros) rfl) ?_
      (refine tc_ret (y_rete ⟨?_, rfl⟩))
      rfl
  | _ =>
    simp only [dHeard] at c1
    (repeat' first | refine tr_at 5 ?_; (refine z_alloc 1005 ?_) | refine tr_at 6 ?_; (refine z_alloc 1006 ?_) | refine tr_at 62 ?_; (refine z_lit 1062 ?_) | refine yyp ?_; try refine s_bu ?_ ?_ <;> intro hb | refine yy ?_ | refine at_call 59 ?_; refine y_call (hc := c1) ?_ | refine at_nil ?_; refine z_nil [0, 1, 4, 5, 6, 7, 8, 23, 24, 46, 56] ?_ | refine tc_seq fun K hK => ?_ | refine tc_at 5 ?_; refine z_draw [8, 11] qnw1_3 ?_ | apply_assumption -exfalso -symm)
    all_goals
      refine tc_wk (wk_hbox_in (n := 910) (q := 911) (i := 8) rfl rfl rfl rfl (by (repeat (first | exact Drop.nil | apply Drop.drop rfl | apply Drop.take rfl)); fail_if_success intros) rfl) ?_
      (refine tc_ret (y_rete ⟨?_, rfl⟩))
      rfl
end
section
open Go.RowKit Nd
namespace Nd
def portV (k : Nat) : V := .agg [.ptr 900 0, .d (.int .i64 k), .d (.int .i64 0)]
end Nd
attribute [local irreducible] TR TC
theorem ptx_fn (gl : List (Nat × List D)) (k : Nat) (n n' : NB) (bit : Int) (A : D) (hn : n.four) (hn' : n'.four) (c : FnE prog gl 17 [.ptr 900 0, .d (.int .i64 k)] (NH n) (fun v H1 => v = .tup [.d (.int .i64 bit), .d A] ∧ H1 = NH n')) :
    FnE prog gl 334 [portV k] (NH n) (fun v H1 => v = .tup [.d (.int .i64 bit), .d A] ∧ H1 = NH n') := by
  obtain ⟨a0, b0', c0, d0, hn⟩ := hn
  obtain ⟨a1, b1, c1', d1, hn'⟩ := hn'
  obtain ⟨nl, nb, no, nm, ns, nr⟩ := n
  obtain ⟨nl1, nb1, no1, nm1, ns1, nr1⟩ := n'
  dsimp only at hn hn'
  subst hn hn'
  unfold portV
  (refine y_entere func334 ntmps334 results334 fun w M E b0 => ?_)
  (repeat' first | refine tr_at 1 ?_; (refine z_box 1001 ?_) | refine tr_at 8 ?_; refine y_callE (hc := c) ?_ | refine yyp ?_; try refine s_bu ?_ ?_ <;> intro hb | refine yy ?_ | refine at_nil ?_; refine z_nil [0, 1, 2, 3, 4, 5, 6] ?_ | refine tc_seq fun K hK => ?_ | apply_assumption -exfalso -symm)
  (refine tc_ret (y_rete ⟨?_, rfl⟩))
  rfl
theorem prx_fn (gl : List (Nat × List D)) (k : Nat) (n n' : NB) (bit : Int) (A : D) (hn : n.four) (hn' : n'.four) (c : FnE prog gl 19 [.ptr 900 0, .d (.int .i64 k), .d (.int .i64 bit)] (NH n) (fun v H1 => v = .d A ∧ H1 = NH n')) :
    FnE prog gl 333 [portV k, .d (.int .i64 bit)] (NH n) (fun v H1 => v = .d A ∧ H1 = NH n') := by
  obtain ⟨a0, b0', c0, d0, hn⟩ := hn
  obtain ⟨a1, b1, c1', d1, hn'⟩ := hn'
  obtain ⟨nl, nb, no, nm, ns, nr⟩ := n
  obtain ⟨nl1, nb1, no1, nm1, ns1, nr1⟩ := n'
  dsimp only at hn hn'
  subst hn hn'
  unfold portV
  (refine y_entere func333 ntmps333 results333 fun w M E b0 => ?_)
  (repeat' first | refine tr_at 2 ?_; (refine z_box 1002 ?_) | refine tr_at 10 ?_; refine y_callE (hc := c) ?_ | refine yyp ?_; try refine s_bu ?_ ?_ <;> intro hb | refine yy ?_ | refine at_nil ?_; refine z_nil [0, 1, 2, 4, 5, 6, 7] ?_ | refine tc_seq fun K hK => ?_ | apply_assumption -exfalso -symm)
  (refine tc_ret (y_rete ⟨?_, rfl⟩))
  rfl
theorem pnode_fn (gl : List (Nat × List D)) (k : Nat) (n : NB) (hn : n.four) : FnE prog gl 332 [portV k] (NH n) (fun v H1 => v = .d (.int .i64 0) ∧ H1 = NH n) := by
  obtain ⟨a0, b0', c0, d0, hn⟩ := hn
  obtain ⟨nl, nb, no, nm, ns, nr⟩ := n
  dsimp only at hn
  subst hn
  unfold portV
  (refine y_entere func332 ntmps332 results332 fun w M E b0 => ?_)
  (repeat' first | refine tr_at 1 ?_; (refine z_box 1001 ?_) | refine yyp ?_; try refine s_bu ?_ ?_ <;> intro hb | refine yy ?_ | refine at_nil ?_; refine z_nil [0, 1, 2, 3, 4] ?_ | refine tc_seq fun K hK => ?_ | apply_assumption -exfalso -symm)
  (refine tc_ret (y_rete ⟨?_, rfl⟩))
  rfl
theorem hnode_fn (gl : List (Nat × List D)) (h : Ho) : FnE prog gl 329 [.ptr 910 0] (HH h) (fun v H1 => v = .d (.int .i64 (-1)) ∧ H1 = HH h) := by
  unfold HH hostC
  (refine y_entere func329 ntmps329 results329 fun w M E b0 => ?_)
  (repeat' first | refine yyp ?_; try refine s_bu ?_ ?_ <;> intro hb | refine yy ?_ | refine at_nil ?_; refine z_nil [2] ?_ | refine tc_seq fun K hK => ?_ | apply_assumption -exfalso -symm)
  (refine tc_ret (y_rete ⟨?_, rfl⟩))
  rfl
end
section
open Go.RowKit Nd
theorem FnE.conv {P : Program} {gl : List (Nat × List D)} {f : FuncId} {args : List V} {H0 X : List (Nat × Ob)} {a b : V} (h : FnE P gl f args H0 (fun v H1 => v = a ∧ H1 = X)) (hb : b.within (keyIn X) = true) (hr : ∀ w M β x, RepV w M β X a x → RepV w M β X b x) : FnE P gl f args H0 (fun v H1 => v = b ∧ H1 = X) := fun w M β us h1 h2 h3 h4 => by
  refine (h w M β us h1 h2 h3 h4).mono ?_
  rintro e w' ⟨v, x, H1, β1, ⟨rfl, rfl⟩, hok, h5⟩
  refine ⟨_, x, _, β1, ⟨rfl, rfl⟩, ?_, h5.1, h5.2.1, h5.2.2.1, h5.2.2.2.1, h5.2.2.2.2.1, hr _ _ _ _ h5.2.2.2.2.2⟩
  unfold endOk at hok ⊢
  simp only [Bool.and_eq_true] at hok ⊢
  exact ⟨hok.1, hb⟩
namespace Nd
abbrev Ac := Int × Int × Int
def act3 (a : Ac) : D := actA a.1 a.2.1 a.2.2
def actT (t node : Int) (a : Ac) : D := .agg [.int .i32 t, .int .i64 node, .int .u8 a.1, .int .i32 a.2.1, .int .i32 a.2.2]
def txL (k : Int) (s : Se) : List Ac := match s.tx with
  | b :: _ => [(7, k, if b then 1 else 0)]
  | [] => if s.ack then [(7, k, 1)] else match s.data with
    | some b => [(4, k, b.toNat), (7, k, 1)]
    | none => []
def rxL (k : Int) : Heard → List Ac
  | .ack => [(6, k, 0)]
  | .byte b => [(5, k, b.toNat)]
  | _ => []
theorem txH_eq (s : Se) : txH s = .list 5 ((txL 0 s).map act3) := by
  obtain ⟨tx, ack, data, rx⟩ := s
  cases tx with
  | cons b t => rfl
  | nil => cases ack <;> cases data <;> rfl
theorem rxH_eq (h : Heard) : rxH h = .list 5 ((rxL 0 h).map act3) := by cases h <;> rfl
theorem txA_rep (k : Int) (s : Se) {w : World} {M : Nat → Nat → Prop} {x : Value} (h : RepD w M (txA k s) x) : RepD w M (.list 5 ((txL k s).map act3)) x := by
  obtain ⟨tx, ack, data, rx⟩ := s
  cases tx with
  | cons b t => exact h
  | nil => cases ack <;> cases data <;> exact h
theorem rxA_rep (k : Int) (hd : Heard) {w : World} {M : Nat → Nat → Prop} {x : Value} (h : RepD w M (rxA k hd) x) : RepD w M (.list 5 ((rxL k hd).map act3)) x := by cases hd <;> exact h
theorem txL_len (k : Int) (s : Se) : (txL k s).length ≤ 2 := by
  obtain ⟨tx, ack, data, rx⟩ := s
  cases tx with
  | cons b t => exact Nat.le_succ 1
  | nil => cases ack <;> cases data <;> simp [txL]
theorem rxL_len (k : Int) (h : Heard) : (rxL k h).length ≤ 2 := by cases h <;> simp [rxL]
def netC (t : Nat) : List V := [.d (.int .i64 1), .d (.list 4 []), .d (.int .i64 0), .d (.int .i64 0), .bsl 961 0 1, .ptr 910 0, .bsl 962 0 2, .d (.int .i32 t)]
def waysC : List V := [.ifc 84 (.ptr 910 0), .ifc 150 (portV 0), .ifc 150 (portV 0), .ifc 84 (.ptr 910 0)]
def NetH (t : Nat) (h : Ho) (n : NB) : List (Nat × Ob) := (960, .box (netC t)) :: (961, .sbox [.ptr 900 0]) :: (962, .sbox waysC) :: (HH h ++ NH n)
def nstep (a b : Bool) (s : Ho × NB) : Ho × NB :=
  let h1 := s.1.take
  let n1 := s.2.step
  let m := if a then (h1, n1) else ({ h1 with en := h1.en.next.1 }, n1.rx 0 h1.en.next.2)
  if b then m else (Ho.hears { m.1 with en := (m.1.en.hear (m.2.tx 0).2).1 } (m.1.en.hear (m.2.tx 0).2).2, (m.2.tx 0).1)
end Nd
theorem ntx5 {gl : List (Nat × List D)} {k : Nat} {bit : Int} {n n' : NB} {s : Se} (c : FnE prog gl 17 [.ptr 900 0, .d (.int .i64 k)] (NH n) (fun v H1 => v = .tup [.d (.int .i64 bit), .d (txA k s)] ∧ H1 = NH n')) :
    FnE prog gl 17 [.ptr 900 0, .d (.int .i64 k)] (NH n) (fun v H1 => v = .tup [.d (.int .i64 bit), .d (.list 5 ((txL k s).map act3))] ∧ H1 = NH n') :=
  c.conv rfl fun w M β x ⟨us, h1, u0, r0, h2, h3, u1, r1, h4, h5, h6⟩ => ⟨us, h1, u0, r0, h2, h3, u1, r1, h4, txA_rep k s h5, h6⟩
theorem nrx5 {gl : List (Nat × List D)} {k : Nat} {bit : Int} {n n' : NB} {hd : Heard} (c : FnE prog gl 19 [.ptr 900 0, .d (.int .i64 k), .d (.int .i64 bit)] (NH n) (fun v H1 => v = .d (rxA k hd) ∧ H1 = NH n')) :
    FnE prog gl 19 [.ptr 900 0, .d (.int .i64 k), .d (.int .i64 bit)] (NH n) (fun v H1 => v = .d (.list 5 ((rxL k hd).map act3)) ∧ H1 = NH n') :=
  c.conv rfl fun w M β x h => rxA_rep k hd h
attribute [local irreducible] TR TC
theorem netnone_fn (gl : List (Nat × List D)) (t : Nat) (h : Ho) (n : NB) (hn : n.four) : FnE prog gl 62 [.ptr 960 0] (NetH t h n) (fun v H1 => v = .d (.bool false) ∧ H1 = NetH t h n) := by
  obtain ⟨a0, b0', c0, d0, hn⟩ := hn
  obtain ⟨nl, nb, no, nm, ns, nr⟩ := n
  dsimp only at hn
  subst hn
  unfold NetH netC
  (refine y_entere func62 ntmps62 results62 fun w M E b0 => ?_)
  (repeat' first | refine yyp ?_; try refine s_bu ?_ ?_ <;> intro hb | refine yyq ?_; try refine s_bu ?_ ?_ <;> intro hb | refine yy ?_ | refine at_nil ?_; refine z_nil [0, 2, 3, 4, 5, 6] ?_ | refine tc_seq fun K hK => ?_ | apply_assumption -exfalso -symm)
  (refine tc_ret (y_rete ⟨?_, rfl⟩))
  rfl
theorem nettime_fn (gl : List (Nat × List D)) (t : Nat) (h : Ho) (n : NB) (hn : n.four) : FnE prog gl 27 [.ptr 960 0] (NetH t h n) (fun v H1 => v = .d (.int .i32 t) ∧ H1 = NetH t h n) := by
  have c0 := netnone_fn gl t h n hn
  obtain ⟨a0, b0', c0', d0, hn⟩ := hn
  obtain ⟨nl, nb, no, nm, ns, nr⟩ := n
  dsimp only at hn
  subst hn
  unfold NetH netC at *
  (refine y_entere func27 ntmps27 results27 fun w M E b0 => ?_)
  (repeat' first | refine tr_at 4 ?_; refine y_callE (hc := c0) ?_; try refine s_bu ?_ ?_ <;> intro hb | refine yyp ?_; try refine s_bu ?_ ?_ <;> intro hb | refine yy ?_ | refine at_nil ?_; refine z_nil [0, 2, 3, 4, 5, 6] ?_ | refine tc_seq fun K hK => ?_ | apply_assumption -exfalso -symm)
  (refine tc_ret (y_rete ⟨?_, rfl⟩))
  rfl
end
end Go.Proofs.YtjhbglklcddekaaGreatDoor
