/- The walks of slices.Grow (of nil) and slices.Concat of bytes. -/
import Derived.Test.YtobdibhadgfldaaJW4
import Derived.Lib.AppendZerosOnto
import Derived.Lib.Walk
import Derived.Lib.SliceRun
namespace Go.Proofs.Ytobdibhadgfldaa
open Go.RowKit

set_option maxHeartbeats 2000000 in
set_option maxRecDepth 100000 in
theorem grow_nil (n : Nat) (hn : n ≤ 1000000000) (w : World) :
    Calls Try.prog 34 #[.slice none 0 0, .int .i64 (n : Nat)] w fun e w' => ∃ a c, e = .returned (.slice a 0 c) ∧ w'.ownsRow w.heap.size 5 1 (.slice a 0 c) 0 [] ∧ Below w.heap.size w w' := by
  by_cases h0 : n = 0
  · subst h0
    go_enter Try.func34, Try.ntmps34
    go_wp2
    go_ret
    exact ⟨none, 0, rfl, ⟨rfl, .inl ⟨rfl, rfl⟩⟩, Below.refl _ _⟩
  · obtain ⟨i, z, ht, hi, hz, hsize, hbytes, hzs, hpos⟩ := Try.elB
    have hfit : Builtin.nextslicecap (0 + n) 0 * i.bytes ≤ 281474976710656 := by
      refine growslice_fits (by omega) ?_
      rw [hbytes]; omega
    have hrz : ∀ ty, (Builtin.append_ #[22, 3] ty #[.slice none 0 0, .int .i64 (n : Nat)]).run Try.prog w =
        .ok (.slice (some ⟨w.heap.size, 0, none⟩) (0 + n) (grownCap w (0 + n) 0 5)) (w.drew.alloc (.cells ((#[] : Array Value) ++ Builtin.zeroCells z.cells n ++ Builtin.zeroCells z.cells (grownCap w (0 + n) 0 5 - (0 + n))) 5)) := fun ty =>
      Lib.run_append_grow_zeros w _ _ ty _ i z .i64 .i64 ht Try.underlying3 hi hz none 0 0 [] (run_firstCells_none w.drew i.size 0 0 0) n (by omega) (by omega) (by omega) (by omega) (by rw [hbytes]; omega) hfit
    have hG := grownCap_ge w (0 + n) 0 5
    have hM := grownCap_le_maxLen w (0 + n) 0 5 (by unfold maxLen; omega)
    generalize grownCap w (0 + n) 0 5 = G at *
    have h1 : decide ((0 : Int) < (n : Int)) = true := by simp; omega
    have hZ : ((#[] : Array Value) ++ Builtin.zeroCells z.cells n ++ Builtin.zeroCells z.cells (G - (0 + n))).size = G * 1 := by
      rw [Array.size_append, Array.size_append, size_zeroCells, size_zeroCells, hzs]; simp; omega
    generalize (#[] : Array Value) ++ Builtin.zeroCells z.cells n ++ Builtin.zeroCells z.cells (G - (0 + n)) = Z at *
    replace hZ := Lib.hid hZ
    clear hfit hi hz
    go_enter Try.func34, Try.ntmps34
    go_wp2_with (at_builtin; refine Lib.wpList_append_run _ rfl _ _ _ _ rfl _ _ rfl rfl _ _ (hrz _) ?_)
    all_goals
      go_ret
      refine ⟨some ⟨w.heap.size, 0, none⟩, G, rfl, ⟨rfl, .inr ⟨w.heap.size, G, Z, rfl, Nat.le_refl _, heap_alloc_new _ _, Nat.zero_le _, hM, hZ.out, ?_⟩⟩, ?_⟩
      · simp
      · exact ((Below.refl _ _).drew).alloc (by simp) _

/-- One of the slices that are joined. -/
structure Part where
  a : Option Addr
  n : Nat
  c : Nat
  l : List UInt8
abbrev Part.val (p : Part) : Value := .slice p.a p.n p.c
def joined (ps : List Part) : List UInt8 := ps.flatMap Part.l
theorem joined_snoc (ps : List Part) (k : Nat) (h : k < ps.length) : joined (ps.take (k + 1)) = joined (ps.take k) ++ ps[k].l := by
  rw [List.take_succ_eq_append_getElem h]
  unfold joined
  rw [List.flatMap_append]
  simp only [List.flatMap_cons, List.flatMap_nil, List.append_nil]
theorem joined_le (ps : List Part) (k : Nat) : (joined (ps.take k)).length ≤ (joined ps).length := by
  have : joined ps = joined (ps.take k) ++ joined (ps.drop k) := by
    unfold joined; rw [← List.flatMap_append, List.take_append_drop]
  rw [this, List.length_append]; omega

set_option maxHeartbeats 2000000 in
set_option maxRecDepth 100000 in
theorem concat_any (ps : List Part) (s : Option Addr) (m c tot : Nat) (hm : ps.length = m) (ht : (joined ps).length = tot) (hmax : tot ≤ 10000000) (w : World) (hs : Sl w w.heap.size s m c 1 (ps.map Part.val))
    (hp : ∀ p ∈ ps, Sl w w.heap.size p.a p.n p.c 1 (p.l.map bv)) :
    Calls Try.prog 24 #[.slice s m c] w fun e w' => ∃ a c', e = .returned (.slice a tot c') ∧ w'.ownsRow w.heap.size 5 1 (.slice a tot c') tot ((joined ps).map bv) ∧ Below w.heap.size w w' := by
  subst hm
  have hcap := hs.cap
  have hmx := hs.max
  unfold maxLen at hmx
  go_enter Try.func24, Try.ntmps24
  go_wp2_with fail
  go_loop [3, 5, 11] (fun z _ i => ∃ k, k ≤ ps.length ∧ i = .int .i64 (k : Nat) ∧ z = .int .i64 ((joined (ps.take k)).length : Nat)) (fun _ _ i => ps.length - (intOf i).toNat)
  case atStart => exact ⟨0, Nat.zero_le _, rfl, rfl⟩
  case round =>
    obtain ⟨k, hk, rfl, rfl⟩ := hrel
    have hle := joined_le ps k
    by_cases hlt : k < ps.length
    · obtain ⟨b, o, rfl, hb, hcell⟩ := hs.rd k ps[k].val (by simp [hlt])
      have hsn := joined_snoc ps k hlt
      have hpk := hp ps[k] (List.getElem_mem hlt)
      have hle2 := joined_le ps (k + 1)
      generalize ps[k] = P at *
      obtain ⟨pa, y, pc, pl⟩ := P
      have hn : pl.length = y := by have := hpk.len; simpa using this
      rw [hsn, List.length_append, hn] at hle2
      replace hsn := Lib.hid hsn
      replace hpk := Lib.hid hpk
      replace hn := Lib.hid hn
      simp only [Part.val] at hcell
      obtain ⟨q, hq⟩ : ∃ q, (joined (ps.take k)).length = q := ⟨_, rfl⟩
      rw [hq] at hle hle2 ⊢
      replace hq := Lib.hid hq
      go_wp2_with fail
      go_round
      case rel => exact ⟨k + 1, by omega, by go_num, by rw [hsn.out, List.length_append, hn.out, hq.out]; go_num⟩
      case measure => simp [intOf]; omega
    · obtain rfl : k = ps.length := by omega
      rw [List.take_length] at *
      replace ht := Lib.hid ht
      go_wp2_with fail
      refine (grow_nil (joined ps).length (by rw [ht.out]; omega) w).mono ?_
      rintro e w1 ⟨a1, c1, rfl, ho1, hb1⟩
      go_wp2_with fail
      go_loopw [6, 8, 27] (fun v _ i wr => ∃ (k : Nat) (va : Option Addr) (vn vc : Nat), k ≤ ps.length ∧ i = .int .i64 (k : Nat) ∧ v = .slice va vn vc ∧ Hid ((joined (ps.take k)).length = vn) ∧
        wr.ownsRow w.heap.size 5 1 (.slice va vn vc) vn ((joined (ps.take k)).map bv) ∧ Below w.heap.size w wr) (fun _ _ i _ => ps.length - (intOf i).toNat)
      case atStart => exact ⟨0, a1, 0, c1, Nat.zero_le _, rfl, rfl, rfl, ho1, hb1⟩
      case round =>
        clear ho1 hb1
        obtain ⟨k, va, vn, vc, hk, rfl, rfl, hvn, ho, hb⟩ := hrel
        have hle := joined_le ps k
        by_cases hlt : k < ps.length
        · obtain ⟨b, o, rfl, hbb, hcell⟩ := (hs.below hb (Nat.le_refl _)).rd k ps[k].val (by simp [hlt])
          have hsn := joined_snoc ps k hlt
          have hpk := hp ps[k] (List.getElem_mem hlt)
          have hle2 := joined_le ps (k + 1)
          generalize ps[k] = P at *
          obtain ⟨pa, y, pc, pl⟩ := P
          have hn : pl.length = y := by have := hpk.len; simpa using this
          rw [hsn, List.length_append, hn, ht.out, hvn.out] at hle2
          replace hsn := Lib.hid hsn
          replace hn := Lib.hid hn
          have hpr := hpk.below hb (Nat.le_refl _)
          simp only [Part.val] at hcell
          clear hpk
          have hz := hb.size
          go_wp2_with (at_builtin; go_must (refine app_own rfl (.tmp 31) (.tmp 32) 22 rfl Try.elB rfl ho rfl hpr (oneCell_bytes _) (by omega) (by omega) hz ?_))
          intro a' c' w' h1 _ h3
          rw [← List.map_append] at h1
          go_wp2
          go_roundw
          case rel => exact ⟨k + 1, a', vn + y, c', by omega, by go_num, rfl, by show _ = _; rw [hsn.out, List.length_append, hvn.out, hn.out], by rw [hsn.out]; exact h1, hb.trans h3⟩
          case measure => simp [intOf]; omega
        · obtain rfl : k = ps.length := by omega
          rw [List.take_length] at ho hvn
          obtain rfl : tot = vn := ht.out.symm.trans hvn.out
          go_wp2
          go_ret
          exact ⟨va, vc, rfl, ho, hb⟩

end Go.Proofs.Ytobdibhadgfldaa
