/- Parts: NW5, NW8. -/
import Derived.Test.YtjhbglklcddekaaGreatDoorV33
set_option linter.all false
set_option maxRecDepth 100000
set_option maxHeartbeats 16000000
namespace Go.Proofs.YtjhbglklcddekaaGreatDoor
open Go.RowKit Go.Proofs.Tryz
section
open Go.RowKit Nd
namespace Nd
def outL (t : Int) (s : Ho × NB) : List D :=
  (txL 0 s.1.take.en).map (actT t (-1)) ++ (rxL 0 (((s.2.step).at 0).wire.hear s.1.take.en.next.2).2).map (actT t 0)
    ++ (txL 0 (((s.2.step).rx 0 s.1.take.en.next.2).at 0).wire).map (actT t 0) ++ (rxL 0 (s.1.take.en.next.1.hear (((s.2.step).rx 0 s.1.take.en.next.2).tx 0).2).2).map (actT t (-1))
theorem Ho.take_got (h : Ho) : h.take.got = h.got := by
  unfold Ho.take
  split
  · rfl
  · split
    · split <;> rfl
    · rfl
theorem Ho.hears_got (h : Ho) (hd : Heard) : (h.hears hd).got.length ≤ h.got.length + 1 := by
  cases hd with
  | byte b => exact Nat.le_of_eq (by show (h.got ++ [b]).length = _; rw [List.length_append]; rfl)
  | _ => exact Nat.le_succ _
end Nd
structure Netted (gl : List (Nat × List D)) (t : Nat) (s : Ho × NB) (l' : Lk) : Prop where
  fn : FnE prog gl 26 [.ptr 960 0, .d (.int .u32 0)] (NetH t s.1 s.2) (fun v H1 => v = .d (.list 5 (outL t s)) ∧ H1 = NetH (t + 1) (nstep false false s).1 (nstep false false s).2)
  ok : (nstep false false s).1.en.ok
  got : (nstep false false s).1.got.length ≤ s.1.got.length + 1
  fits : (nstep false false s).2.fits 0 l'
theorem netstep_at (gl : List (Nat × List D)) (t : Nat) (ht : t < 2147483647) (s : Ho × NB) (l : Lk) (hok : s.1.en.ok) (hf : s.2.fits 0 l) (hr : s.2.step.run = none) (hg : s.1.got.length ≤ 1000000) : ∃ l', Netted gl t s l' := by
  obtain ⟨h, n⟩ := s
  dsimp only at hok hf hr hg
  have h0 : 0 < 4 := by omega
  obtain ⟨l1, q1⟩ := nstep_wait gl 0 h0 n l hf hr
  have f1 := q1.fits hr
  have k1 := h.take_ok hok
  obtain ⟨l2, f2, cR⟩ := nrx_fn gl 0 h0 n.step l1 h.take.en.next.2 f1
  obtain ⟨e3, cX⟩ := ntx_at gl 0 h0 (n.step.rx 0 h.take.en.next.2) l2 f2.ls f2.ok
  have a1 : n.step.at 0 = l1 := NB.at_k h0 f1.ls
  have a2 : (n.step.rx 0 h.take.en.next.2).at 0 = l2 := NB.at_k h0 f2.ls
  have four : ∀ (n : NB) (l : Lk), n.ls = at4 0 l → n.four := fun n l h => by
    unfold NB.four
    rw [h]
    exact four_at h0 l
  have cT := htake_fn gl h hok
  have cH := htx_fn gl h.take k1
  rw [txH_eq] at cH
  have k2 := k1.next
  have cY := hrx_fn gl { h.take with en := h.take.en.next.1 } ((n.step.rx 0 h.take.en.next.2).tx 0).2 k2 (by show h.take.got.length ≤ _; rw [Ho.take_got]; exact hg)
  rw [rxH_eq] at cY
  have z0 : ((0 : Nat) : Int) = 0 := rfl
  have g := netstep_fn gl t ht h h.take { h.take with en := h.take.en.next.1 } _ n n.step (n.step.rx 0 h.take.en.next.2) ((n.step.rx 0 h.take.en.next.2).tx 0).1 (four _ _ hf.ls) (four _ _ f1.ls) (four _ _ f2.ls) (four _ _ e3) _ _ _ _ _ _ (txL_len 0 _) (rxL_len 0 _) (txL_len 0 _) (rxL_len 0 _)
    q1.fn cT cH (prx_fn gl 0 _ _ _ _ (four _ _ f1.ls) (four _ _ f2.ls) (nrx5 cR)) (ptx_fn gl 0 _ _ _ _ (four _ _ f2.ls) (four _ _ e3) (ntx5 cX)) cY
  refine ⟨{ l2 with wire := l2.wire.next.1 }, ?_, ?_, ?_, ?_⟩
  · unfold outL
    dsimp only
    rw [a1, a2]
    exact g
  · exact Ho.hears_ok _ _ (k2.hear _)
  · refine Nat.le_trans (Ho.hears_got _ _) ?_
    show h.take.got.length + 1 ≤ _
    rw [Ho.take_got]
    exact Nat.le_refl _
  · obtain ⟨q1, q2, q3, q4, q5, q6, q7, q8, q9, q10⟩ := f2
    exact ⟨e3, q2.next, q3, q4, q5, q6, q7, q8, q9, q10⟩
end
section
open Go.RowKit Nd
namespace Nd
def pst : Nat → Ho × NB
  | 0 => (⟨se0, [1, 0, 0, 0, 128], [], false⟩, new 1024)
  | i + 1 => nstep false false (pst i)
def pgo : Nat → Ho × NB → Bool
  | 0, _ => true
  | i + 1, s => (s.2.step).run.isNone && pgo i (nstep false false s)
theorem pgo_all : pgo 301 (pst 0) = true := by decide +kernel
theorem pgo_at : ∀ (m i : Nat), pgo m (pst i) = true → ∀ j, j < m → (pst (i + j)).2.step.run.isNone = true
  | 0, _, _, j, hj => absurd hj (Nat.not_lt_zero j)
  | m + 1, i, h, j, hj => by
    simp only [pgo, Bool.and_eq_true] at h
    cases j with
    | zero => exact h.1
    | succ j =>
      have := pgo_at m (i + 1) h.2 j (by omega)
      rwa [Nat.add_right_comm, Nat.add_assoc] at this
theorem pst_run (i : Nat) (hi : i < 301) : (pst i).2.step.run = none := by
  have := pgo_at 301 0 pgo_all i hi
  rw [Nat.zero_add] at this
  simpa using this
theorem pst_first : outL 0 (pst 0) = [actT 0 (-1) (4, 0, 1), actT 0 (-1) (7, 0, 1)] := by kernel_rfl
theorem pst_end : pst 301 = (⟨se0, [], [0, 0, 0, 0], false⟩, ⟨-1, [], [], List.replicate 1024 0, [lk0, lk0, lk0, lk0], none⟩) := by kernel_rfl
end Nd
end
end Go.Proofs.YtjhbglklcddekaaGreatDoor
