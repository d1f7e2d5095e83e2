/- Parts: N27, N28. -/
import Derived.Test.YtjhbglklcddekaaGreatDoorP36
import Derived.Test.YtjhbglklcddekaaGreatDoorP26
import Derived.Test.YtjhbglklcddekaaGreatDoorP40
import Derived.Test.YtjhbglklcddekaaGreatDoorP37
import Derived.Test.YtjhbglklcddekaaGreatDoorP39
set_option linter.all false
set_option maxRecDepth 100000
set_option maxHeartbeats 16000000
namespace Go.Proofs.YtjhbglklcddekaaGreatDoor
open Go.RowKit Go.Proofs.Tryz
section
open Go.RowKit Nd
namespace Nd
def hbits : List Bool := ((((true :: rest 2) ++ [false, false, false, false]) ++ (true :: rest 33)) ++ [false, false, false, false]) ++ (true :: rest 240)
def hround (s : NB × Nat) (b : Bool) : NB × Nat := ((((s.1.rx 1 b).step).tx 1).1, s.2 + if (((s.1.rx 1 b).step).tx 1).2 then 1 else 0)
def hst (i : Nat) : NB × Nat := (hbits.take i).foldl hround (new 1024, 0)
theorem hst_end : hst 41 = (⟨1, [], [], put (List.replicate 1024 0) 72 [33, 240], [lk0, ⟨⟨[false], false, none, []⟩, false, none⟩, lk0, lk0], some (-2147483572, -2147483628)⟩, 3) := by kernel_rfl
theorem hst_run : ∀ i, i < 41 → (hst i).1.run = none := by decide +kernel
theorem hbits_len : hbits.length = 41 := by kernel_rfl
theorem hst_succ {i : Nat} (h : i < 41) : hst (i + 1) = hround (hst i) (hbits[i]'(by rw [hbits_len]; exact h)) := by
  unfold hst
  rw [List.take_succ_eq_append_getElem (by rw [hbits_len]; exact h), List.foldl_append]
  rfl
theorem hst_num : ∀ i, i < 42 → (hst i).2 ≤ 41 := by decide +kernel
end Nd
end
section
def qn28_0 : List Nat := [0, 1, 2, 3, 4, 5, 6, 7, 8, 9, 10, 11, 13, 14, 15, 16, 19, 37, 63]
open Go.RowKit Nd
theorem hr_fn (gl : List (Nat × List D)) (s : NB × Nat) (b : Bool) (l : Lk) (h : s.1.fits 1 l) :
    ∃ n1 n2 A B C l', s.1.four ∧ n1.four ∧ n2.four ∧ (hround s b).1.four ∧ FnE prog gl 19 [.ptr 900 0, .d (.int .i64 1), .d (bI b)] (NH s.1) (fun v H1 => v = .d A ∧ H1 = NH n1) ∧
      FnE prog gl 18 [.ptr 900 0] (NH n1) (fun v H1 => v = .d B ∧ H1 = NH n2) ∧
      FnE prog gl 17 [.ptr 900 0, .d (.int .i64 1)] (NH n2) (fun v H1 => v = .tup [.d (.int .i64 (if (((s.1.rx 1 b).step).tx 1).2 then 1 else 0)), .d C] ∧ H1 = NH (hround s b).1) ∧
      ((hround s b).1.run = none → (hround s b).1.fits 1 l') := by
  obtain ⟨l1, h1, cR⟩ := nrx_fn gl 1 (by omega) s.1 l b h
  obtain ⟨l2, B, h2⟩ := nstep_fn gl 1 (by omega) _ l1 h1
  obtain ⟨h3, cT⟩ := ntx_at gl 1 (by omega) _ l2 h2.ls h2.ok
  have four : ∀ (n : NB) (l : Lk), n.ls = at4 1 l → n.four := fun n l h => by
    unfold NB.four
    rw [h]
    exact four_at (by omega) l
  refine ⟨_, _, _, _, _, { l2 with wire := l2.wire.next.1 }, four _ _ h.ls, four _ _ h1.ls, four _ _ h2.ls, four _ _ h3, cR, h2.fn, cT, fun hr => ?_⟩
  have hr' : ((s.1.rx 1 b).step).run = none := hr
  obtain ⟨q1, q2, q3, q4, q5, q6, q7, q8, q9, q10⟩ := h2.fits hr'
  exact ⟨h3, h2.ok.next, q3, q4, q5, q6, q7, q8, q9, q10⟩
theorem fits0 : (hst 0).1.fits 1 lk0 := by
  refine ⟨rfl, ok0, fun h => (by cases h), .inl rfl, rfl, List.length_replicate, fun h => absurd rfl h, fun _ => ⟨rfl, rfl⟩, fun h => (by cases h), fun h => absurd rfl h⟩
attribute [local irreducible] TR TC
theorem head_fn (gl : List (Nat × List D)) : FnD prog gl 7 [] (fun v => v = .d (.bool true)) := by
  have c1 := nnew_fn gl
  have c2 := nnew_no gl
  have c3 := booted_fn gl 0 (by omega) (-1) [] [] (List.replicate 1024 0) lk0 none
  have b1 := rbits_fn gl 2
  have b2 := rbits_fn gl 33
  have b3 := rbits_fn gl 240
  have c4 := nidle_fn gl (List.replicate 1024 0)
  rw [show at4 0 lk0 = [lk0, lk0, lk0, lk0] from rfl] at c3
  have z : (([.int .i64 0, .int .i64 0, .int .i64 0, .int .i64 0] : List D)) = [bI false, bI false, bI false, bI false] := rfl
  have hx : ((((true :: rest 2).map bI ++ ([.int .i64 0, .int .i64 0, .int .i64 0, .int .i64 0] : List D)) ++ (true :: rest 33).map bI) ++ ([.int .i64 0, .int .i64 0, .int .i64 0, .int .i64 0] : List D)) ++ (true :: rest 240).map bI = hbits.map bI := by
    rw [z, hbits]
    simp only [List.map_append, List.map_cons, List.map_nil]
  have l1 : ((true :: rest 2).map bI).length = 11 := by rw [List.length_map]; rfl
  have l2 : ((true :: rest 33).map bI).length = 11 := by rw [List.length_map]; rfl
  have l3 : ((true :: rest 240).map bI).length = 11 := by rw [List.length_map]; rfl
  generalize (true :: rest 2).map bI = x1 at *
  generalize (true :: rest 33).map bI = x2 at *
  generalize (true :: rest 240).map bI = x3 at *
  clear z
  unfold new at c1
  rw [show List.replicate 4 lk0 = [lk0, lk0, lk0, lk0] from rfl] at c1
  (refine y_enter func7 ntmps7 results7 fun w M => ?_)
  (repeat' first | refine tr_at 21 ?_; refine y_callG (hc := c1) ?_ | refine tr_at 25 ?_; refine y_callG (hc := c2) ?_ | refine tr_at 40 ?_; refine y_callE (hc := c3) ?_ | refine tr_at 45 ?_; refine z_append0 1045 ?_ | refine tr_at 47 ?_; (refine z_lit 1047 ?_) | refine tr_at 53 ?_; (refine z_lit 1053 ?_) | refine tr_at 59 ?_; refine y_callE (hc := c4) ?_; try refine s_bu ?_ ?_ <;> intro hb | refine yyp ?_; try refine s_bu ?_ ?_ <;> intro hb | refine yyq ?_; try refine s_bu ?_ ?_ <;> intro hb | refine yy ?_ | refine at_call 33 ?_; refine y_call (hc := b1) ?_ | (refine at_append ?_; first | (refine z_append (fun kv => ?_)) | (refine z_append_suf (fun sx sp kv hsx hsp hsl => ?_))) | refine at_call 33 ?_; refine y_call (hc := b2) ?_ | refine at_call 33 ?_; refine y_call (hc := b3) ?_ | refine at_nil ?_; refine z_nil qn28_0 ?_ | refine tc_seq fun K hK => ?_ | apply_assumption -exfalso -symm)
  rw [hx]
  clear c1 c2 c3 b1 b2 b3 c4 hx l1 l2 l3
  refine y_famx [7, 10, 11, 12, 60, 61, 62, 63, 64, 65, 66, 67, 68, 69, 70, 71, 72, 73, 74, 75, 76, 77, 78, 79, 80, 81] [900, 901, 903] (fun i : Nat => [(10, .d (.int .i64 i)), (7, .d (.int .i64 (hst i).2))]) (fun i => NH (hst i).1) (fun i => i ≤ 41 ∧ (i < 41 → ∃ l, (hst i).1.fits 1 l)) (fun i => 41 - i) 0 ⟨by omega, fun _ => ⟨_, fits0⟩⟩  fun i hi => ?_
  dsimp only [List.cons_append, List.nil_append] at hi ⊢
  rcases Nat.lt_or_ge i 41 with h41 | h41
  · obtain ⟨l, hl⟩ := hi.2 h41
    have hbl : i < hbits.length := by rw [hbits_len]; exact h41
    have hs := hst_succ h41
    have hP : i + 1 ≤ 41 ∧ (i + 1 < 41 → ∃ l, (hst (i + 1)).1.fits 1 l) := by
      obtain ⟨n1, n2, A, B, C, l', f0, f1, f2, f3, cR, cS, cT, hn⟩ := hr_fn gl (hst i) hbits[i] l hl
      exact ⟨by omega, fun h => ⟨l', by rw [hs]; exact hn (by rw [← hs]; exact hst_run (i + 1) h)⟩⟩
    have hz : (hst i).2 ≤ 41 := hst_num i (by omega)
    obtain ⟨n1, n2, A, B, C, l', f0, f1, f2, f3, cR, cS, cT, hn⟩ := hr_fn gl (hst i) hbits[i] l hl
    have hz3 : ((hst (i + 1)).2 : Int) = (hst i).2 + (if (((((hst i).1.rx 1 hbits[i]).step).tx 1).2) then 1 else 0) := by
      rw [hs]
      unfold hround
      dsimp only
      split <;> rfl
    rw [← hs] at f3 cT
    clear hn hs hl hi
    have hxb : (0 : Int) ≤ (if (((((hst i).1.rx 1 hbits[i]).step).tx 1).2) then 1 else 0) ∧ (if (((((hst i).1.rx 1 hbits[i]).step).tx 1).2) then 1 else 0) ≤ (1 : Int) := by split <;> omega
    generalize (if (((((hst i).1.rx 1 hbits[i]).step).tx 1).2) then (1 : Int) else 0) = xb at *
    obtain ⟨a0, b0', c0, d0, f0⟩ := f0
    obtain ⟨a1, b1, c1', d1, f1⟩ := f1
    obtain ⟨a2, b2, c2, d2, f2⟩ := f2
    obtain ⟨a3, b3, c3, d3, f3⟩ := f3
    obtain ⟨nl1, nb1, no1, nm1, ns1, nr1⟩ := n1
    obtain ⟨nl2, nb2, no2, nm2, ns2, nr2⟩ := n2
    rcases hq : hst i with ⟨⟨nl, nb, no, nm, ns, nr⟩, z⟩
    rcases hq3 : hst (i + 1) with ⟨⟨nl3, nb3, no3, nm3, ns3, nr3⟩, z3⟩
    rw [hq] at f0 cR hz hz3
    rw [hq3] at f3 cT hz3
    dsimp only at f0 f1 f2 f3 cR cT hz hz3 ⊢
    subst f0 f1 f2 f3
    (repeat' first | refine tr_at 71 ?_; refine y_callE (hc := cR) ?_ | refine tr_at 73 ?_; refine y_callE (hc := cS) ?_ | refine tr_at 76 ?_; refine y_callE (hc := cT) ?_ | refine yyp ?_; try refine s_bu ?_ ?_ <;> intro hb | refine yy ?_ | refine at_nil ?_; refine z_nil qn28_0 ?_ | refine tc_seq fun K hK => ?_ | apply_assumption -exfalso -symm)
    refine ⟨i + 1, hP, by omega, ?_⟩
    dsimp only
    rw [hq3]
    dsimp only
    rw [hz3]
    exact y_wk
  · obtain rfl : i = 41 := by omega
    rw [hst_end]
    dsimp only
    obtain ⟨m, hm⟩ : ∃ m, m = put (List.replicate 1024 0) 72 [33, 240] := ⟨_, rfl⟩
    have hml : m.length = 1024 := by rw [hm]; kernel_rfl
    have hmr : (m.drop 72).take 2 = [33, 240] := by rw [hm]; kernel_rfl
    rw [← hm]
    clear hm hi h41
    have c5 := booted_fn gl 1 (by omega) 1 [] [] m ⟨⟨[false], false, none, []⟩, false, none⟩ (some (-2147483572, -2147483628))
    rw [show at4 1 (⟨⟨[false], false, none, []⟩, false, none⟩ : Lk) = [lk0, ⟨⟨[false], false, none, []⟩, false, none⟩, lk0, lk0] from rfl] at c5
    have c6 := state_fn gl 1 m lk0 ⟨⟨[false], false, none, []⟩, false, none⟩ lk0 lk0 (some (-2147483572, -2147483628)) (by omega) (by omega)
    have c7 := rread_fn gl m 2 (by omega) (by omega) (by omega)
    rw [hmr] at c7
    have c8 := from_no gl 1 m lk0 ⟨⟨[false], false, none, []⟩, false, none⟩ lk0 lk0 (-2147483572) (-2147483628) hml
    ((repeat' first | refine tr_at 84 ?_; refine y_callE (hc := c5) ?_ | refine tc_at 22 ?_; refine halt ?_ | refine yyp ?_; try refine s_bu ?_ ?_ <;> intro hb | refine yy ?_ | refine yy2 ?_ ?_ <;> intro hcmp | refine at_nil ?_; refine z_nil qn28_0 ?_ | refine tc_seq fun K hK => ?_ | apply_assumption -exfalso -symm); all_goals try refine unhalt ?_)
    · exfalso
      have := hbits_len
      omega
    refine tc_wk (wk_hbox_out (n := 900) (q := 902) rfl rfl) ?_
    refine tc_share 903 rfl ?_
    refine tc_fcell 900 28 901 rfl rfl rfl (ns := [901, 903]) (.cons (ToD.own rfl) .nil) rfl (by (repeat (first | exact Drop.nil | apply Drop.drop rfl | apply Drop.take rfl)); fail_if_success intros) rfl rfl rfl ?_
    refine tc_wk (wk_hbox_in (n := 900) (q := 902) (i := 115) rfl rfl rfl rfl (by (repeat (first | exact Drop.nil | apply Drop.drop rfl | apply Drop.take rfl)); fail_if_success intros) rfl) ?_
    simp only [stateD, coreD, four_links, lkD, seD, dBs_nil, List.cons_append, List.nil_append, List.append_assoc, List.set_cons_succ, List.set_cons_zero] at c6 c8
    (repeat' first | refine tr_at 88 ?_; refine y_callE (hc := c6) ?_ | refine tr_at 15 ?_; (refine z_alloc 3015 ?_) | refine tr_at 101 ?_; refine y_callG (hc := c8) ?_ | refine yyp ?_; try refine s_bu ?_ ?_ <;> intro hb | refine yy ?_ | refine yy2 ?_ ?_ <;> intro hcmp | refine at_call 34 ?_; refine y_call (hc := c7) ?_ | refine at_nil ?_; refine z_nil qn28_0 ?_ | refine tc_seq fun K hK => ?_ | apply_assumption -exfalso -symm)
    · (refine tc_ret (y_ret ?_))
      rfl
    all_goals exact absurd rfl hcmp
end
end Go.Proofs.YtjhbglklcddekaaGreatDoor
