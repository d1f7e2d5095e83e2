/- The walk of the iterator 'records'. -/
import Derived.Test.YtobdibhadgfldaaJW8
import Derived.Test.YtobdibhadgfldaaRange
namespace Go.Proofs.Ytobdibhadgfldaa
open Go.RowKit Go.Shelf
attribute [local go_sem] Oper.semAt_some

/-- How much is left in the iterator's box. -/
def leftIn (p : Addr) (w : World) : Nat := match w.cell? p with | some (.slice _ n _) => n | _ => 0
theorem leftIn_eq {p : Addr} {w : World} {x : Option Addr} {n c : Nat} (h : w.cell? p = some (.slice x n c)) : leftIn p w = n := by unfold leftIn; rw [h]

set_option maxHeartbeats 1000000 in
theorem records_seq (F : Fence) (n : Nat) (hf : F.fn 35) (hro : F.round = none) (hn : 1 ≤ n) (bb o len c Bn : Nat) (x0 : Option Addr) (w : World) (hx0 : 18 ≤ len → x0 = some ⟨bb, o, none⟩) (hlc : len ≤ c) (_hcm : c ≤ maxLen)
    (h : w.cell? ⟨Bn, 0, none⟩ = some (.slice x0 len c)) (hfz : w.frozen? ⟨Bn, 0, none⟩ = false) :
    BoxSeq F n Try.prog 35 #[.pointer (some ⟨Bn, 0, none⟩)] (fun k => #[.slice (some ⟨bb, o + 18 * k, none⟩) 18 (c - 18 * k)]) (len / 18) ⟨Bn, 0, none⟩ w := by
  intro l J Jx W hc1 hf1 hbox hY h0
  rw [h] at hc1
  rw [hfz] at hf1
  unfold maxLen at _hcm
  refine callsIn_of_wp Try.func35 rfl hf ?_ hro
  simp only [Try.ntmps35, List.size_toArray, List.length_cons, List.length_nil, Nat.reduceAdd, Nat.reduceSub, Array.replicate_succ, Array.replicate_zero, List.push_toArray, List.append_toArray, List.nil_append, List.cons_append]
  gi_wp2
  gi_loopw [] (fun wr => ∃ k x, 18 * k ≤ len ∧ wr.cell? ⟨Bn, 0, none⟩ = some (.slice x (len - 18 * k) (c - 18 * k)) ∧ (18 * k + 18 ≤ len → x = some ⟨bb, o + 18 * k, none⟩) ∧ wr.frozen? ⟨Bn, 0, none⟩ = false ∧ J k wr) (fun wr => leftIn ⟨Bn, 0, none⟩ wr)
  case atStart => exact ⟨0, x0, by omega, by simpa using hc1, by simpa using hx0, hf1, h0⟩
  case round =>
    obtain ⟨k, x, hk, hc, hx, hfr, hJ⟩ := hrel
    have hleft := leftIn_eq hc
    by_cases hlt : 18 * k + 18 ≤ len
    · obtain rfl := hx hlt
      obtain ⟨fn, tmps, assign, body, hy, hR⟩ := hY k wr (by omega) hJ
      have g1 : (18 : Int) ≤ ((len - 18 * k : Nat) : Int) := by omega
      gi_wp2
      refine hR.mono ?_
      clear hR hy
      rintro e W3 (⟨rfl, hJ3, hc3, hf3⟩ | ⟨rfl, hJx3⟩)
      · rw [hc] at hc3
        rw [hfr] at hf3
        have cs : ∀ v, (W3.setCell ⟨Bn, 0, none⟩ v).cell? ⟨Bn, 0, none⟩ = some v := fun v => World.cell?_setCell_same' _ _ _ (by rw [hc3]; rfl)
        by_cases hcz : c - 18 * k = 18
        · gi_wp2
          go_roundw
          case rel =>
            refine ⟨k + 1, some ⟨bb, o + 18 * k, none⟩, by omega, (cs _).trans ?_, fun h => by omega, by rw [World.frozen?_setCell]; exact hf3, hbox _ _ _ hJ3⟩
            rw [show len - 18 * (k + 1) = len - 18 * k - 18 by omega, show c - 18 * (k + 1) = 0 by omega]
          case measure => rw [hleft, leftIn_eq (cs _)]; omega
        · gi_wp2
          go_roundw
          case rel =>
            refine ⟨k + 1, some ⟨bb, o + 18 * k + 18, none⟩, by omega, (cs _).trans ?_, fun h => ?_, by rw [World.frozen?_setCell]; exact hf3, hbox _ _ _ hJ3⟩
            · rw [show len - 18 * (k + 1) = len - 18 * k - 18 by omega, show c - 18 * (k + 1) = c - 18 * k - 18 by omega]
            · rw [show o + 18 * (k + 1) = o + 18 * k + 18 by omega]
          case measure => rw [hleft, leftIn_eq (cs _)]; omega
      · gi_wp2
        go_end0
        exact ⟨⟨_, rfl⟩, .inr ⟨k, by omega, hJx3⟩⟩
    · have hN : len / 18 = k := by omega
      have g1 : ¬ (18 : Int) ≤ ((len - 18 * k : Nat) : Int) := by omega
      gi_wp2
      refine ⟨fun _ h => (by cases h), ?_⟩
      gi_wp2
      go_end0
      rw [hN]
      exact ⟨⟨_, rfl⟩, .inl hJ⟩

end Go.Proofs.Ytobdibhadgfldaa
