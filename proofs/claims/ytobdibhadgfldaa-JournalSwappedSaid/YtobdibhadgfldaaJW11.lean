/- The walks of Get. -/
import Derived.Test.YtobdibhadgfldaaJW10
namespace Go.Proofs.Ytobdibhadgfldaa
open Go.RowKit

/-- What Get answers. -/
def GetOf (b : List UInt8) (w : World) (e : Ending) (w' : World) : Prop :=
  ∃ a c, e = .returned (.tuple #[.slice a (J.getL b).length c, .int .i64 (J.getE b)]) ∧ Sl w' w'.heap.size a (J.getL b).length c 5 (avs (J.getL b)) ∧ Below w.heap.size w w'

theorem GetOf.yes {b : List UInt8} (h : 18 * (J.wholes b).length = b.length) {w w' : World} {a : Option Addr} {c : Nat} (hs : Sl w' w'.heap.size a (J.wholes b).length c 5 (avs (J.wholes b))) (hb : Below w.heap.size w w') :
    GetOf b w (.returned (.tuple #[.slice a (J.wholes b).length c, .int .i64 0])) w' := by
  have h1 : J.getL b = J.wholes b := by simp [J.getL, J.isAll, h]
  have h2 : J.getE b = 0 := by simp [J.getE, J.isAll, h]
  exact ⟨a, c, by rw [h1, h2], by rw [h1]; exact hs, hb⟩
theorem GetOf.no {b : List UInt8} (h : ¬ 18 * (J.wholes b).length = b.length) {w w' : World} (hb : Below w.heap.size w w') :
    GetOf b w (.returned (.tuple #[.slice none 0 0, .int .i64 370])) w' := by
  have h1 : J.getL b = [] := by simp [J.getL, J.isAll, h]
  have h2 : J.getE b = 370 := by simp [J.getE, J.isAll, h]
  exact ⟨none, 0, by rw [h1, h2]; rfl, by rw [h1]; exact Sl.of_nil _ _ _, hb⟩

set_option maxHeartbeats 400000 in
theorem Get_any (a : Option Addr) (c : Nat) (b : List UInt8) (hl : b.length ≤ 8000000) (w : World) (hs : Sl w w.heap.size a b.length c 1 (b.map bv)) :
    Calls Try.prog 11 #[.slice a b.length c] w (GetOf b w) := by
  have hw := Lib.hid (Whole_any a c b hl w hs)
  have hle := J.wholes_length b
  have HY := Lib.hid (fun h w' a c => @GetOf.yes b h w w' a c)
  have HN := Lib.hid (fun h w' => @GetOf.no b h w w')
  clear hs
  go_enter Try.func11, Try.ntmps11
  go_wp2_with fail
  refine hw.out.mono ?_
  rintro e w' ⟨a', c', rfl, hs', hb⟩
  by_cases h : 18 * (J.wholes b).length = b.length
  · have hy := Lib.hid (HY.out h w' a' c' hs' hb)
    clear HN HY hs'
    generalize (J.wholes b).length = n at *
    have g1 : decide (((18 * n : Nat) : Int) < (b.length : Int)) = false := by simp; omega
    have g2 : ¬ 18 * n < b.length := by omega
    clear h
    go_wp2
    go_ret2
    exact hy.out
  · have hn := Lib.hid (HN.out h w' hb)
    clear HN HY hs'
    generalize (J.wholes b).length = n at *
    have g1 : decide (((18 * n : Nat) : Int) < (b.length : Int)) = true := by simp; omega
    have g2 : 18 * n < b.length := by omega
    clear h
    go_wp2
    go_ret2
    exact hn.out

set_option maxHeartbeats 400000 in
theorem rGet_any (a : Option Addr) (c : Nat) (b : List UInt8) (hl : b.length ≤ 8000000) (w : World) (hs : Sl w w.heap.size a b.length c 1 (b.map bv)) :
    Calls Try.prog 13 #[.slice a b.length c] w (GetOf b w) := by
  have hw := Lib.hid (rWhole_any a c b hl w hs)
  have hle := J.wholes_length b
  have HY := Lib.hid (fun h w' a c => @GetOf.yes b h w w' a c)
  have HN := Lib.hid (fun h w' => @GetOf.no b h w w')
  clear hs
  go_enter Try.func13, Try.ntmps13
  go_wp2_with fail
  refine hw.out.mono ?_
  rintro e w' ⟨a', c', rfl, hs', hb⟩
  by_cases h : 18 * (J.wholes b).length = b.length
  · have hy := Lib.hid (HY.out h w' a' c' hs' hb)
    clear HN HY hs'
    generalize (J.wholes b).length = n at *
    have g2 : ¬ ¬ 18 * n = b.length := by omega
    go_wp2
    go_ret2
    exact hy.out
  · have hn := Lib.hid (HN.out h w' hb)
    clear HN HY hs'
    generalize (J.wholes b).length = n at *
    go_wp2
    go_ret2
    exact hn.out

end Go.Proofs.Ytobdibhadgfldaa
