/- Parts: NW11. -/
import Derived.Test.YtjhbglklcddekaaGreatDoorV36
import Derived.Test.YtjhbglklcddekaaGreatDoorV34
import Derived.Test.YtjhbglklcddekaaGreatDoorV35
import Derived.Test.YtjhbglklcddekaaGreatDoorV31
import Derived.Test.YtjhbglklcddekaaGreatDoorV15
set_option linter.all false
set_option maxRecDepth 100000
set_option maxHeartbeats 16000000
namespace Go.Proofs.YtjhbglklcddekaaGreatDoor
open Go.RowKit Go.Proofs.Tryz
section
def qnw11_0 : List Nat := [0, 1, 2, 3, 4, 5, 6, 29, 69, 71]
open Go.RowKit Nd
theorem pst_holds (gl : List (Nat × List D)) : ∀ i : Nat, i ≤ 301 → (pst i).1.en.ok ∧ (pst i).1.got.length ≤ i ∧ ∃ l, (pst i).2.fits 0 l
  | 0, _ => ⟨ok0, Nat.le_refl _, lk0, fits_new (by omega)⟩
  | i + 1, h => by
    obtain ⟨q1, q2, l, q3⟩ := pst_holds gl i (by omega)
    obtain ⟨l', hb⟩ := netstep_at gl 0 (by omega) (pst i) l q1 q3 (pst_run i (by omega)) (by omega)
    exact ⟨hb.ok, by have := hb.got; show (nstep false false (pst i)).1.got.length ≤ _; omega, l', hb.fits⟩
attribute [local irreducible] TR TC
theorem nethead_fn (gl : List (Nat × List D)) : FnD prog gl 29 [] (fun v => v = .d (.bool true)) := by
  have c1 := one_fn gl
  have c2 := netnew_fn gl
  have c3 := netnew_no gl
  have f4 : ∀ (n : NB) (l : Lk), n.fits 0 l → n.four := fun n l h => by
    unfold NB.four
    rw [h.ls]
    exact four_at (by omega) l
  have c4 : FnE prog gl 24 [.ptr 960 0, .d (.list 1 (dBs [1, 0, 0, 0, 128]))] (NetH 0 ⟨se0, [], [], false⟩ (new 1024)) (fun v H1 => v = .d (.int .i64 0) ∧ H1 = NetH 0 ⟨se0, [1, 0, 0, 0, 128], [], false⟩ (new 1024)) := netgive_fn gl 0 ⟨se0, [], [], false⟩ (new 1024) ⟨_, _, _, _, rfl⟩ [1, 0, 0, 0, 128] (by simp)
  obtain ⟨l1, b5⟩ := netstep_at gl 0 (by omega) (pst 0) _ ok0 (fits_new (by omega)) (pst_run 0 (by omega)) (by show (0 : Nat) ≤ _; omega)
  have c5 := b5.fn
  rw [show outL ((0 : Nat) : Int) (pst 0) = _ from pst_first] at c5
  unfold actT at c5
  dsimp only at c5
  change FnE prog gl 26 [.ptr 960 0, .d (.int .u32 0)] (NetH 0 ⟨se0, [1, 0, 0, 0, 128], [], false⟩ (new 1024)) (fun v H1 => v = _ ∧ H1 = NetH 1 (pst 1).1 (pst 1).2) at c5
  obtain ⟨_, _, lf, hf1⟩ := pst_holds gl 1 (by omega)
  obtain ⟨a1, b1, c1', d1, hls⟩ := f4 _ _ hf1
  clear hf1 b5
  rcases hq1 : pst 1 with ⟨h1, ⟨nl1, nb1, no1, nm1, ns1, nr1⟩⟩
  rw [hq1] at c5 hls
  dsimp only at c5 hls
  subst hls
  have u1 := Tryz.underlying23
  have u2 := Tryz.underlying5
  (refine y_enter func29 ntmps29 results29 fun w M => ?_)
  (repeat' first | refine tr_at 9 ?_; refine y_callG (hc := c2) ?_ | refine tr_at 14 ?_; refine y_callG (hc := c3) ?_ | refine tr_at 25 ?_; (refine z_lit 1025 ?_) | refine tr_at 26 ?_; (refine y_mark u1 u2 ?_) | refine tr_at 27 ?_; refine y_callE (hc := c4) ?_ | refine tr_at 31 ?_; refine y_callE (hc := c5) ?_ | refine yyp ?_; try refine s_bu ?_ ?_ <;> intro hb | refine yy ?_ | refine yyc ?_ | refine at_call 31 ?_; refine y_call (hc := c1) ?_ | refine at_nil ?_; refine z_nil qnw11_0 ?_ | refine tc_seq fun K hK => ?_ | apply_assumption -exfalso -symm)
  refine y_famx (ι := Nat) [6, 70, 71, 72, 73, 74, 75] [960, 961, 962, 910, 900, 901, 903] (fun i : Nat => [(6, .d (.int .i64 i))]) (fun i => NetH (1 + i) (pst (1 + i)).1 (pst (1 + i)).2) (fun i => i ≤ 300) (fun i => 300 - i) 0 (Nat.zero_le _) (h0 := ?_)  fun i hi => ?_
  rotate_left
  · dsimp only
    rw [show pst (1 + 0) = _ from hq1]
    exact y_wk
  clear c5 c4 c3 c2 c1 hq1
  dsimp only [List.cons_append, List.nil_append] at hi ⊢
  rcases Nat.lt_or_ge i 300 with h3 | h3
  · obtain ⟨q1, q2, l, q3⟩ := pst_holds gl (1 + i) (by omega)
    obtain ⟨l', b⟩ := netstep_at gl (1 + i) (by omega) (pst (1 + i)) l q1 q3 (pst_run _ (by omega)) (by omega)
    have c := b.fn
    change FnE prog gl 26 [.ptr 960 0, .d (.int .u32 0)] (NetH (1 + i) (pst (1 + i)).1 (pst (1 + i)).2) (fun v H1 => v = _ ∧ H1 = NetH (1 + (i + 1)) (pst (1 + (i + 1))).1 (pst (1 + (i + 1))).2) at c
    obtain ⟨_, _, lf, hf2⟩ := pst_holds gl (1 + (i + 1)) (by omega)
    obtain ⟨a0, b0', c0', d0, g1⟩ := f4 _ _ q3
    obtain ⟨a2, b2, c2', d2, g2⟩ := f4 _ _ hf2
    generalize outL _ _ = X at c
    clear b q1 q2 q3 hf2
    rcases hq : pst (1 + i) with ⟨h4, ⟨nl, nb, no, nm, ns, nr⟩⟩
    rcases hq2 : pst (1 + (i + 1)) with ⟨h5, ⟨nl2, nb2, no2, nm2, ns2, nr2⟩⟩
    rw [hq] at c g1
    rw [hq2] at c g2
    dsimp only at c g1 g2 ⊢
    subst g1 g2
    have hN : (i : Int) < 300 := by omega
    (repeat' first | refine tr_at 75 ?_; refine y_callE (hc := c) ?_ | refine yyp ?_; try refine s_bu ?_ ?_ <;> intro hb | refine yy ?_ | refine at_nil ?_; refine z_nil qnw11_0 ?_ | refine tc_seq fun K hK => ?_ | apply_assumption -exfalso -symm)
    refine ⟨i + 1, by omega, by omega, ?_⟩
    dsimp only
    rw [hq2]
    exact y_wk
  · obtain rfl : i = 300 := by omega
    rw [show pst (1 + 300) = _ from pst_end]
    dsimp only
    have c6 := netgot_fn gl (1 + 300) ⟨se0, [], [0, 0, 0, 0], false⟩ ⟨-1, [], [], List.replicate 1024 0, [lk0, lk0, lk0, lk0], none⟩ ⟨_, _, _, _, rfl⟩ (by simp)
    have c7 := nettime_fn gl (1 + 300) ⟨se0, [], [0, 0, 0, 0], false⟩ ⟨-1, [], [], List.replicate 1024 0, [lk0, lk0, lk0, lk0], none⟩ ⟨_, _, _, _, rfl⟩
    have c8 := netidle_fn gl (1 + 300) [0, 0, 0, 0] (List.replicate 1024 0)
    (repeat' first | refine tr_at 77 ?_; refine y_callE (hc := c6) ?_ | refine tr_at 82 ?_; refine y_callE (hc := c7) ?_ | refine tr_at 87 ?_; refine y_callE (hc := c8) ?_; try refine s_bu ?_ ?_ <;> intro hb | refine yyp ?_; try refine s_bu ?_ ?_ <;> intro hb | refine yy ?_ | refine yy2 ?_ ?_ <;> intro hcmp | refine at_nil ?_; refine z_nil qnw11_0 ?_ | refine tc_seq fun K hK => ?_ | apply_assumption -exfalso -symm)
    · (refine tc_ret (y_ret ?_))
      rfl
    · exact absurd rfl hcmp
end
end Go.Proofs.YtjhbglklcddekaaGreatDoor
