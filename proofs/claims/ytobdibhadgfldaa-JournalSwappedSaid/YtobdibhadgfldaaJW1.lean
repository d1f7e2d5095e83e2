/- The walks of the small functions under the journal: may, number, four, Sum, and those of the reference. -/
import Derived.Test.YtobdibhadgfldaaRows
import Derived.Test.YtobdibhadgfldaaBase
import Derived.Test.YtobdibhadgfldaaJPlain
import Derived.Deep.QuietTactic
import Derived.BigQuiet
namespace Go.Proofs.Ytobdibhadgfldaa
open Go.RowKit

theorem crcBit_walk (q : Nat) (h : q < 4294967296) :
    bits BinOp.xor IntKind.u32 ((q : Int) / 2) (3988292384 * bits BinOp.and IntKind.u32 (q : Int) 1 % 4294967296) = ((J.crcBit q : Nat) : Int) := by
  have e1 : bits BinOp.and IntKind.u32 (q : Int) 1 = ((q % 2 : Nat) : Int) := by
    rw [show (1 : Int) = ((1 : Nat) : Int) from rfl, u32_and_nat q 1 h (by omega), nat_mask1]
  have e2 : (3988292384 * ((q % 2 : Nat) : Int) % 4294967296) = ((3988292384 * (q % 2) : Nat) : Int) := by
    have := Nat.mod_lt q (show 0 < 2 by omega)
    omega
  rw [e1, e2, show (q : Int) / 2 = ((q / 2 : Nat) : Int) from by omega]
  rw [u32_xor_nat _ _ (by omega) (by have := Nat.mod_lt q (show 0 < 2 by omega); omega)]
  rfl

theorem crcX_walk (q : Nat) (x : UInt8) (h : q < 4294967296) :
    bits BinOp.xor IntKind.u32 (q : Int) ((x.toNat : Int) % 4294967296) = ((q ^^^ x.toNat : Nat) : Int) := by
  have hx := x.toNat_lt
  rw [show (x.toNat : Int) % 4294967296 = ((x.toNat : Nat) : Int) from by omega]
  rw [u32_xor_nat _ _ h (by omega)]

theorem ret_int {k : IntKind} {a b : Int} (h : a = b) : Ending.returned (.int k a) = .returned (.int k b) := by rw [h]

theorem crcNot_walk (q : Nat) (h : q < 4294967296) : bits BinOp.xor IntKind.u32 IntKind.u32.max (q : Int) = ((4294967295 - q : Nat) : Int) := by
  rw [show IntKind.u32.max = ((4294967295 : Nat) : Int) from rfl, u32_xor_nat _ _ (by omega) h]
  congr 1
  refine Nat.eq_of_testBit_eq fun i => ?_
  have e : (4294967295 - q) = 2 ^ 32 - (q + 1) := by omega
  rw [e, Nat.testBit_two_pow_sub_succ (by omega), Nat.testBit_xor, show (4294967295 : Nat) = 2 ^ 32 - 1 from rfl, Nat.testBit_two_pow_sub_one]
  by_cases hi : i < 32
  · simp [hi]
  · have : q.testBit i = false := Nat.testBit_lt_two_pow (Nat.lt_of_lt_of_le h (Nat.pow_le_pow_right (n := 2) (by omega) (show 32 ≤ i by omega)))
    simp [hi, this]

set_option maxHeartbeats 400000 in
theorem may_any (a : J.Act) (w : World) :
    Calls Try.prog 28 #[.agg #[.int .i32 a.t, .int .i64 a.n, .int .u8 a.k, .int .i32 a.c, .int .i32 a.x]] w fun e w' => e = .returned (.bool (J.may a)) ∧ Below w.heap.size w w' := by
  obtain ⟨t, n, k, c, x⟩ := a
  unfold J.may
  go_enter Try.func28, Try.ntmps28
  go_wp2
  all_goals (go_ret; exact ⟨by simp [*]; try omega, (Below.refl _ _).alloc (Nat.le_refl _) _⟩)

set_option maxHeartbeats 400000 in
theorem rmay_any (a : J.Act) (w : World) :
    Calls Try.prog 31 #[.agg #[.int .i32 a.t, .int .i64 a.n, .int .u8 a.k, .int .i32 a.c, .int .i32 a.x]] w fun e w' => e = .returned (.bool (J.may a)) ∧ Below w.heap.size w w' := by
  obtain ⟨t, n, k, c, x⟩ := a
  unfold J.may
  go_enter Try.func31, Try.ntmps31
  go_wp2
  all_goals (go_ret; exact ⟨by simp [*]; try omega, (Below.refl _ _).alloc (Nat.le_refl _) _⟩)

set_option maxHeartbeats 400000 in
theorem sum_any (a : Option Addr) (l : List UInt8) (c : Nat) (hl : l.length ≤ 4000000000) (w : World) (hc : Rd w w.heap.size a (l.map bv)) :
    Calls Try.prog 37 #[.slice a l.length c] w fun e w' => e = .returned (.int .u32 (J.crc l : Nat)) ∧ w = w' := by
  go_enter Try.func37, Try.ntmps37
  go_wp2
  go_loop [3, 5, 8, 16] (fun r _ i _ => ∃ k : Nat, k ≤ l.length ∧ i = .int .i64 k ∧ r = .int .u32 (J.crcFold 4294967295 (l.take k) : Nat)) (fun _ _ i _ => l.length - (intOf i).toNat)
  case atStart => exact ⟨0, Nat.zero_le _, rfl, rfl⟩
  case round =>
    obtain ⟨k, hk, rfl, rfl⟩ := hrel
    have hq := J.crcFold_lt (l.take k) (r := 4294967295) (by omega)
    by_cases hlt : k < l.length
    · obtain ⟨b, o, rfl, _, hck⟩ := hc.byte k hlt
      clear hc
      have hsn := Lib.hid (J.crcFold_snoc 4294967295 l k hlt)
      have hxw := Lib.hid (crcX_walk _ l[k] hq)
      have hlt2 := J.crcX_lt hq l[k]
      go_wp2
      rw [hxw.out]
      generalize J.crcFold 4294967295 (l.take k) ^^^ l[k].toNat = q at *
      go_loop [3, 16] (fun r j => ∃ i : Nat, i ≤ 8 ∧ j = .int .i64 i ∧ r = .int .u32 (J.crcN i q : Nat)) (fun _ i => 8 - (intOf i).toNat)
      case atStart => exact ⟨0, by omega, rfl, rfl⟩
      case round =>
        obtain ⟨i, hi, rfl, rfl⟩ := hrel
        have hqi := J.crcN_lt i hlt2
        by_cases hlt : i < 8
        · have hw := Lib.hid (crcBit_walk _ hqi)
          go_wp2
          go_round
          case rel => exact ⟨i + 1, by omega, by go_num, by rw [hw.out]; rfl⟩
          case measure => simp [intOf]; omega
        · obtain rfl : i = 8 := by omega
          go_wp2
          go_round
          case rel => exact ⟨k + 1, by omega, by go_num, by rw [hsn.out]⟩
          case measure => simp [intOf]; omega
    · obtain rfl : k = l.length := by omega
      rw [List.take_length] at *
      go_wp2
      go_ret
      exact ⟨ret_int (crcNot_walk _ hq), rfl⟩

set_option maxHeartbeats 400000 in
theorem rsum_any (a : Option Addr) (l : List UInt8) (c : Nat) (hl : l.length ≤ 4000000000) (w : World) (hc : Rd w w.heap.size a (l.map bv)) :
    Calls Try.prog 39 #[.slice a l.length c] w fun e w' => e = .returned (.int .u32 (J.crc l : Nat)) ∧ w = w' := by
  go_enter Try.func39, Try.ntmps39
  go_wp2
  go_loop [3, 4, 5, 6, 7] (fun r i _ _ _ => ∃ k : Nat, k ≤ l.length ∧ i = .int .i64 k ∧ r = .int .u32 (J.crcFold 4294967295 (l.take k) : Nat)) (fun _ i _ _ _ => l.length - (intOf i).toNat)
  case atStart => exact ⟨0, Nat.zero_le _, rfl, rfl⟩
  case round =>
    obtain ⟨k, hk, rfl, rfl⟩ := hrel
    have hq := J.crcFold_lt (l.take k) (r := 4294967295) (by omega)
    by_cases hlt : k < l.length
    · obtain ⟨b, o, rfl, _, hck⟩ := hc.byte k hlt
      clear hc
      have hsn := Lib.hid (J.crcFold_snoc 4294967295 l k hlt)
      have hlt2 := J.crcX_lt hq l[k]
      go_wp2
      generalize J.crcFold 4294967295 (l.take k) = q at *
      go_loop [3, 5, 6, 7] (fun r x j _ => ∃ i : Nat, i ≤ 8 ∧ j = .int .i64 i ∧ r = .int .u32 (J.refR i q l[k].toNat : Nat) ∧ x = .int .u32 (l[k].toNat / 2 ^ i : Nat)) (fun _ _ i _ => 8 - (intOf i).toNat)
      case atStart => exact ⟨0, by omega, rfl, rfl, by have := l[k].toNat_lt; simp; omega⟩
      case round =>
        obtain ⟨i, hi, rfl, rfl, rfl⟩ := hrel
        have hqi := J.refR_lt i hq l[k].toNat
        by_cases hlt : i < 8
        · have hxl : l[k].toNat / 2 ^ i < 4294967296 := Nat.lt_of_le_of_lt (Nat.div_le_self _ _) (by have := l[k].toNat_lt; omega)
          have hst := Lib.hid (J.refR_succ i q l[k].toNat)
          have hdv := Lib.hid (show l[k].toNat / 2 ^ (i + 1) = l[k].toNat / 2 ^ i / 2 from by rw [Nat.pow_succ, ← Nat.div_div_eq_div_mul])
          generalize J.refR i q l[k].toNat = z at *
          generalize l[k].toNat / 2 ^ i = y at *
          have hb := u32_xor_nat y z hxl hqi
          have hb2 := u32_xor_nat (z / 2) 3988292384 (by omega) (by omega)
          rw [show ((z / 2 : Nat) : Int) = (z : Int) / 2 from by omega] at hb2
          by_cases ht : (y ^^^ z) % 2 = 1
          · have ht2 := hst.out
            rw [if_pos ht] at ht2
            have HT := Lib.hid ht2
            clear ht2 hst
            go_wp2
            go_round
            case rel => exact ⟨i + 1, by omega, by go_num, by rw [HT.out, ← hb2]; rfl, by rw [hdv.out]; go_num⟩
            case measure => simp [intOf]; omega
          · have ht2 := hst.out
            rw [if_neg ht] at ht2
            have HT := Lib.hid ht2
            clear ht2 hst
            go_wp2
            go_round
            case rel => exact ⟨i + 1, by omega, by go_num, by rw [HT.out]; go_num, by rw [hdv.out]; go_num⟩
            case measure => simp [intOf]; omega
        · obtain rfl : i = 8 := by omega
          go_wp2
          go_round
          case rel => exact ⟨k + 1, by omega, by go_num, by rw [hsn.out, J.refR_8]⟩
          case measure => simp [intOf]; omega
    · obtain rfl : k = l.length := by omega
      rw [List.take_length] at *
      go_wp2
      go_ret
      exact ⟨ret_int (by unfold J.crc; omega), rfl⟩

end Go.Proofs.Ytobdibhadgfldaa
