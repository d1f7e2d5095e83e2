/- The walk of HasPrefix and of the examples 'awake'. -/
import Derived.Test.YtobdibhadgfldaaJW11
namespace Go.Proofs.Ytobdibhadgfldaa
open Go.RowKit

set_option maxHeartbeats 400000 in
theorem prefix_any (a a2 : Option Addr) (n c n2 c2 : Nat) (l m : List UInt8) (hn : n2 ≤ n) (w : World) (hs : Sl w w.heap.size a n c 1 (l.map bv)) (hs2 : Sl w w.heap.size a2 n2 c2 1 (m.map bv)) :
    Calls Try.prog 25 #[.slice a n c, .slice a2 n2 c2] w fun e w' => e = .returned (.bool (decide (l.take n2 = m))) ∧ Below w.heap.size w w' := by
  have h1 := hs.upto1 n2 hn
  rw [← List.map_take] at h1
  have he := Lib.hid (fun W h h' => equal_any a a2 n2 c n2 c2 (l.take n2) m W h h')
  have hcap := hs.cap
  have hmax : c ≤ 9223372036854775807 := by have := hs.max; unfold maxLen at this; omega
  have g1 : (n2 : Int) ≤ (n : Int) := by omega
  have g2 : n2 ≤ c := by omega
  have HC := Lib.hid h1
  have HC2 := Lib.hid hs2
  clear h1 hs hs2
  go_enter Try.func25, Try.ntmps25
  go_wp2_with fail
  refine (he.out _ HC.out HC2.out).mono ?_
  rintro e w' ⟨rfl, hb⟩
  go_wp2
  go_ret
  exact ⟨rfl, hb⟩

theorem PutRes_true {l : List J.Act} {w : World} {a : Option Addr} {n c : Nat} {e : Int} (h : PutRes l w a n c e) (hk : J.okFrom 0 l = true) : e = 0 ∧ Sl w w.heap.size a n c 1 ((J.recs 0 l).map bv) ∧ n = 18 * l.length := by
  unfold PutRes at h
  rw [if_pos hk] at h
  refine ⟨h.1, h.2, ?_⟩
  have := h.2.len
  rw [List.length_map, J.recs_length] at this
  omega
theorem PutRes_false {l : List J.Act} {w : World} {a : Option Addr} {n c : Nat} {e : Int} (h : PutRes l w a n c e) (hk : J.okFrom 0 l = false) : e = 2 ∧ a = none ∧ n = 0 ∧ c = 0 := by
  unfold PutRes at h
  rw [if_neg (by rw [hk]; decide)] at h
  exact h

namespace J
def one : Act := ⟨1, -1, 4, 0, 2⟩
def two : Act := ⟨2, 7, 9, -1, 0⟩
def far : Act := ⟨0, 8, 1, 0, 0⟩
def nought : Act := ⟨0, 0, 0, 0, 0⟩
def two36 : List UInt8 := recs 0 [one, two]
set_option maxRecDepth 100000 in
theorem wf_all : ∀ x ∈ [one, two, far, nought], x.Wf := by
  intro x hx
  simp only [List.mem_cons, List.not_mem_nil, or_false] at hx
  rcases hx with rfl | rfl | rfl | rfl <;> exact ⟨by decide, by decide, by decide, by decide, by decide⟩
set_option maxRecDepth 100000 in
theorem ex_whole : wholes (two36.take 35) = [one] := by decide +kernel
set_option maxRecDepth 100000 in
theorem ex_get : getL (two36 ++ [0]) = [] ∧ getE (two36 ++ [0]) = 370 := by decide +kernel
set_option maxRecDepth 100000 in
theorem ex_nil : getL [] = [] ∧ getE [] = 0 := by decide +kernel
set_option maxRecDepth 100000 in
theorem ex_prefix : two36.take 14 = [1, 0, 0, 0, 0, 4, 0, 0, 0, 0, 2, 0, 0, 0] := by decide +kernel
theorem ex_len : two36.length = 36 := recs_length _ _
end J

end Go.Proofs.Ytobdibhadgfldaa
