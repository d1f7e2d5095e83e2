/- A []api.Act that came in, as the walks want it. -/
import Derived.Test.YtobdibhadgfldaaRowB
import Derived.Deep.Slices
import Derived.Deep.Fields
namespace Go.Proofs.Ytobdibhadgfldaa
open Go.ChangeShapes Go.WideShapes Go.ChangeAt Go.RowKit

theorem choose_list {α : Type} {n : Nat} {p : Nat → α → Prop} (h : ∀ i, i < n → ∃ x, p i x) : ∃ l : List α, l.length = n ∧ ∀ i (hi : i < l.length), p i l[i] := by
  induction n with
  | zero => exact ⟨[], rfl, fun i hi => absurd hi (Nat.not_lt_zero _)⟩
  | succ n ih =>
    obtain ⟨l, hl, hp⟩ := ih (fun i hi => h i (by omega))
    obtain ⟨x, hx⟩ := h n (by omega)
    refine ⟨l ++ [x], by simp [hl], fun i hi => ?_⟩
    by_cases hin : i < l.length
    · rw [List.getElem_append_left hin]; exact hp i hin
    · obtain rfl : i = n := by simp at hi; omega
      rw [List.getElem_append_right (by omega)]
      simpa [hl] using hx

theorem wf_i32 {n : Int} (h : (Lit.int .i32 n).wf = true) : -2147483648 ≤ n ∧ n ≤ 2147483647 := by
  simpa [Lit.wf, IntKind.min, IntKind.max, IntKind.signed, IntKind.bits] using h
theorem wf_i64 {n : Int} (h : (Lit.int .i64 n).wf = true) : -9223372036854775808 ≤ n ∧ n ≤ 9223372036854775807 := by
  simpa [Lit.wf, IntKind.min, IntKind.max, IntKind.signed, IntKind.bits] using h
theorem wf_u8 {n : Int} (h : (Lit.int .u8 n).wf = true) : 0 ≤ n ∧ n ≤ 255 := by
  simpa [Lit.wf, IntKind.min, IntKind.max, IntKind.signed, IntKind.bits] using h

/-- The cells of acts, one by one. -/
theorem avs_at (l : List J.Act) : ∀ (j : Nat) (v : Value), (avs l)[j]? = some v → ∃ (k i : Nat) (hk : k < l.length), j = k * 5 + i ∧ i < 5 ∧ (av l[k])[i]? = some v := by
  induction l with
  | nil => intro j v h; simp [avs] at h
  | cons x l ih =>
    intro j v h
    rw [show avs (x :: l) = av x ++ avs l from rfl] at h
    by_cases hj : j < 5
    · rw [List.getElem?_append_left (by simpa using hj)] at h
      exact ⟨0, j, by simp, by omega, hj, h⟩
    · rw [List.getElem?_append_right (by simpa using hj)] at h
      obtain ⟨k, i, hk, e, hi, hv⟩ := ih (j - 5) v (by simpa using h)
      exact ⟨k + 1, i, by simpa using hk, by omega, hi, by simpa using hv⟩

theorem act_cells {H : Type} {enc : TypeId × Value → H} {w : World} {base : Nat} {spare : Nat → Bool} {held : Bool} {fuel : Nat} {cs : List Value} {x : DataW H × List MemPlace}
    (h : DataW.trod enc Try.prog w base spare held fuel 44 cs = some x) : ∃ a : J.Act, a.Wf ∧ cs = av a := by
  obtain ⟨ys, n, _, _, hl, _, hf⟩ := DataW.trod_struct Try.underlying44 h
  have hc : Try.prog.cellsOf 44 = 5 := by kernel_rfl
  rw [hc] at hl
  match cs, hl with
  | [c0, c1, c2, c3, c4], _ =>
    have g0 := hf 0 _ rfl
    have g1 := hf 1 _ rfl
    have g2 := hf 2 _ rfl
    have g3 := hf 3 _ rfl
    have g4 := hf 4 _ rfl
    have hlen : ys.length = 5 := by assumption
    have s0 : ys[0]? = some ys[0] := List.getElem?_eq_getElem (by omega)
    have s1 : ys[1]? = some ys[1] := List.getElem?_eq_getElem (by omega)
    have s2 : ys[2]? = some ys[2] := List.getElem?_eq_getElem (by omega)
    have s3 : ys[3]? = some ys[3] := List.getElem?_eq_getElem (by omega)
    have s4 : ys[4]? = some ys[4] := List.getElem?_eq_getElem (by omega)
    obtain ⟨n0, e0, _, w0⟩ := DataW.trod_int (k := .i32) (by kernel_rfl) (g0.trans s0)
    obtain ⟨n1, e1, _, w1⟩ := DataW.trod_int (k := .i64) (by kernel_rfl) (g1.trans s1)
    obtain ⟨n2, e2, _, w2⟩ := DataW.trod_int (k := .u8) (by kernel_rfl) (g2.trans s2)
    obtain ⟨n3, e3, _, w3⟩ := DataW.trod_int (k := .i32) (by kernel_rfl) (g3.trans s3)
    obtain ⟨n4, e4, _, w4⟩ := DataW.trod_int (k := .i32) (by kernel_rfl) (g4.trans s4)
    have k0 : Try.prog.cellsOf 21 = 1 := by kernel_rfl
    have k1 : Try.prog.cellsOf 3 = 1 := by kernel_rfl
    have k2 : Try.prog.cellsOf 42 = 1 := by kernel_rfl
    simp [k0, k1, k2] at e0 e1 e2 e3 e4
    subst e0 e1 e2 e3 e4
    exact ⟨⟨n0, n1, n2, n3, n4⟩, ⟨wf_i32 w0, wf_i64 w1, wf_u8 w2, wf_i32 w3, wf_i32 w4⟩, rfl⟩

/-- Acts that came in. -/
theorem open_acts {H : Type} {enc : TypeId × Value → H} {w : World} {spare : Nat → Bool} {held : Bool} {fuel : Nat} {a : Option Addr} {len cap : Nat} {x : DataW H × List MemPlace}
    (h : DataW.trod enc Try.prog w 0 spare held fuel 24 (Value.slice a len cap).cells.toList = some x) : ∃ l : List J.Act, l.length = len ∧ (∀ y ∈ l, y.Wf) ∧ Sl w w.heap.size a len cap 5 (avs l) := by
  rcases Go.Deep.open_slice Try.underlying24 h with ⟨hcs, _⟩ | ⟨p, n, c, m, f, D, Pl, hcs, _, hl, hm, hmm, _, hi⟩
  · simp [Value.cells] at hcs
    obtain ⟨rfl, rfl, rfl⟩ := hcs
    exact ⟨[], rfl, by simp, Sl.of_nil _ _ _⟩
  · simp [Value.cells] at hcs
    obtain ⟨rfl, rfl, rfl⟩ := hcs
    have hc : Try.prog.cellsOf 44 = 5 := by kernel_rfl
    rw [hc] at hi
    have hle : len ≤ m := by rw [hmm]; split <;> omega
    obtain ⟨l, hlen, hp⟩ := choose_list (n := len) (p := fun i (y : J.Act) => y.Wf ∧ ∀ j v, (av y)[j]? = some v → w.cell? (p.add (i * 5 + j)) = some v) (fun i hin => by
      obtain ⟨cs', h1, h2⟩ := hi i (by omega)
      obtain ⟨y, hy, rfl⟩ := act_cells h2
      obtain ⟨_, hcl, hat⟩ := World.cells?_some h1
      refine ⟨y, hy, fun j v hv => ?_⟩
      have hj : j < 5 := (List.getElem?_eq_some_iff.1 hv).1
      rw [← Go.Deep.add_add, hat j hj, hv])
    refine ⟨l, hlen, fun y hy => ?_, sl_of_cells ?_ (by rw [avs_length, hlen]) hl hm⟩
    · obtain ⟨i, hi', rfl⟩ := List.mem_iff_getElem.1 hy
      exact (hp i hi').1
    · intro j v hv
      obtain ⟨k, i, hk, rfl, _, hv'⟩ := avs_at l j v hv
      exact (hp k hk).2 i v hv'

/-- Bytes that came in. -/
theorem open_bytes {H : Type} {enc : TypeId × Value → H} {w : World} {spare : Nat → Bool} {held : Bool} {fuel : Nat} {a : Option Addr} {len cap : Nat} {x : DataW H × List MemPlace}
    (h : DataW.trod enc Try.prog w 0 spare held fuel 22 (Value.slice a len cap).cells.toList = some x) : ∃ l : List UInt8, l.length = len ∧ Sl w w.heap.size a len cap 1 (l.map bv) := by
  rcases Go.Deep.open_slice1 Try.underlying22 (by kernel_rfl) h with ⟨hcs, _⟩ | ⟨p, n, c, m, f, V, D, Pl, hcs, _, hl, hm, hmm, _, hi⟩
  · simp [Value.cells] at hcs
    obtain ⟨rfl, rfl, rfl⟩ := hcs
    exact ⟨[], rfl, Sl.of_nil _ _ _⟩
  · simp [Value.cells] at hcs
    obtain ⟨rfl, rfl, rfl⟩ := hcs
    have hle : len ≤ m := by rw [hmm]; split <;> omega
    obtain ⟨l, hlen, hp⟩ := choose_list (n := len) (p := fun i (y : UInt8) => w.cell? (p.add i) = some (bv y)) (fun i hin => by
      obtain ⟨h1, h2⟩ := hi i (by omega)
      obtain ⟨z, e, _, hz⟩ := DataW.trod_int (k := .u8) (by kernel_rfl) h2
      have hz := wf_u8 hz
      have e : V i = .int .u8 z := by simpa using e
      refine ⟨UInt8.ofNat z.toNat, ?_⟩
      rw [h1, e]
      simp only [bv, UInt8.toNat_ofNat']
      congr 2
      omega)
    refine ⟨l, hlen, sl_of_cells ?_ (by rw [List.length_map, hlen]; omega) hl hm⟩
    intro j v hv
    obtain ⟨hj, rfl⟩ := List.getElem?_eq_some_iff.1 hv
    rw [List.length_map] at hj
    rw [List.getElem_map]
    exact hp j hj

end Go.Proofs.Ytobdibhadgfldaa
