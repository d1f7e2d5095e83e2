/- The walk of fine, which makes acts valid. -/
import Derived.Test.YtobdibhadgfldaaJW4
namespace Go.Proofs.Ytobdibhadgfldaa
open Go.RowKit

theorem i32_mask31 (n : Int) : bits .and .i32 n 2147483647 = n % 2147483648 := by
  have key : (BitVec.ofInt 32 n &&& BitVec.ofInt 32 2147483647).toNat = (n % ((2 ^ 32 : Nat) : Int)).toNat % 2 ^ 31 := by
    rw [BitVec.toNat_and, BitVec.toNat_ofInt, show (BitVec.ofInt 32 2147483647).toNat = 2 ^ 31 - 1 from rfl, Nat.and_two_pow_sub_one_eq_mod]
  show IntKind.i32.wrap ((BitVec.ofInt 32 n &&& BitVec.ofInt 32 2147483647).toNat : Nat) = n % 2147483648
  rw [key, IntKind.wrap_i32]
  omega
theorem i64_and15 (n : Int) : bits .and .i64 n 15 = n % 16 := by
  have key : (BitVec.ofInt 64 n &&& BitVec.ofInt 64 15).toNat = (n % ((2 ^ 64 : Nat) : Int)).toNat % 2 ^ 4 := by
    rw [BitVec.toNat_and, BitVec.toNat_ofInt, show (BitVec.ofInt 64 15).toNat = 2 ^ 4 - 1 from rfl, Nat.and_two_pow_sub_one_eq_mod]
  show IntKind.i64.wrap ((BitVec.ofInt 64 n &&& BitVec.ofInt 64 15).toNat : Nat) = n % 16
  rw [key, IntKind.wrap_i64]
  omega

theorem set_act (F rest : List J.Act) (x : J.Act) (k : Nat) (hF : F.length = k) (u0 u v z : Value) :
    ((((avs (F ++ x :: rest)).set (k * 5) u0).set (k * 5) u).set (k * 5 + 1) v).set (k * 5 + 2) z = avs F ++ ([u, v, z, .int .i32 x.c, .int .i32 x.x] ++ avs rest) := by
  have hl : (avs F).length = k * 5 := by rw [avs_length, hF]
  rw [avs_append, show avs (x :: rest) = av x ++ avs rest from rfl]
  rw [List.set_append_right _ _ (by omega), List.set_append_right _ _ (by omega), List.set_append_right _ _ (by omega), List.set_append_right _ _ (by omega)]
  rw [hl, Nat.sub_self, show k * 5 + 1 - k * 5 = 1 by omega, show k * 5 + 2 - k * 5 = 2 by omega]
  rfl

set_option maxHeartbeats 400000 in
theorem fine_any (a : Option Addr) (c : Nat) (l : List J.Act) (hl : l.length ≤ 10000000) (hwf : ∀ x ∈ l, x.Wf) (w : World) (hs : Sl w w.heap.size a l.length c 5 (avs l)) :
    Calls Try.prog 17 #[.slice a l.length c] w fun e w' => ∃ a' c', e = .returned (.slice a' l.length c') ∧ w'.ownsRow w.heap.size 44 5 (.slice a' l.length c') l.length (avs (J.fine 0 l)) ∧ Below w.heap.size w w' := by
  go_enter Try.func17, Try.ntmps17
  go_wp2_with fail
  refine (cloneA_any a l.length c l hl w hs).mono ?_
  rintro e w1 ⟨a1, c1, rfl, ho1, hb1⟩
  go_wp2_with fail
  go_loopw [3, 4, 9] (fun t _ i wr => ∃ k, k ≤ l.length ∧ i = .int .i64 (k : Nat) ∧ t = .int .i32 (J.lastT 0 (J.fine 0 (l.take k))) ∧
      wr.ownsRow w.heap.size 44 5 (.slice a1 l.length c1) l.length (avs (J.fine 0 (l.take k) ++ l.drop k)) ∧ Below w.heap.size w wr) (fun _ _ i _ => l.length - (intOf i).toNat)
  case atStart => exact ⟨0, Nat.zero_le _, rfl, rfl, ho1, hb1⟩
  case round =>
    obtain ⟨k, hk, rfl, rfl, ho, hb⟩ := hrel
    by_cases hlt : k < l.length
    · obtain ⟨g, rfl, hg, _, _⟩ := owns_at ho (by omega)
      have hfz := fun j => ho.frozenAt j
      have hF : (J.fine 0 (l.take k)).length = k := by rw [J.fine_length, List.length_take]; omega
      have hdr : J.fine 0 (l.take k) ++ l.drop k = J.fine 0 (l.take k) ++ l[k] :: l.drop (k + 1) := by rw [List.drop_eq_getElem_cons hlt]
      have hget : ∀ j x, (av l[k])[j]? = some x → wr.cell? ⟨g, k * 5 + j, none⟩ = some x := by
        intro j x hx
        have hj : j < 5 := (List.getElem?_eq_some_iff.1 hx).1
        rw [ho.cellAt _ (by omega), hdr]
        have hk' : (J.fine 0 (l.take k) ++ l[k] :: l.drop (k + 1))[k]'(by rw [List.length_append, hF]; simp; omega) = l[k] := by
          rw [List.getElem_append_right (by omega)]
          simp [hF]
        exact avs_get _ k (by rw [List.length_append, hF]; simp; omega) j x (by rw [hk']; exact hx)
      have d0 := hget 0 _ rfl
      have d1 := hget 1 _ rfl
      have d2 := hget 2 _ rfl
      have hwk := hwf l[k] (List.getElem_mem hlt)
      have w2 := hwk.k
      have hlast := J.lastT_bd (l.take k) 0 (by omega) (by omega)
      have hnew := Lib.hid (show J.fine 0 (l.take (k + 1)) = J.fine 0 (l.take k) ++ [J.fine1 (J.lastT 0 (J.fine 0 (l.take k))) l[k]] from by
        rw [List.take_succ_eq_append_getElem hlt, J.fine_snoc])
      have HF := Lib.hid hF
      have HD := Lib.hid hdr
      have m1 := i32_mask31 l[k].t
      have m2 := i64_and15 l[k].n
      have q1 : 0 ≤ l[k].t % 2147483648 := by omega
      have q2 : 0 ≤ l[k].n % 16 := by omega
      have q3 : l[k].n % 16 ≤ 15 := by omega
      simp only [Nat.add_zero] at d0
      clear hget hF hdr hwk
      go_wp2_with fail
      go_roundw
      case rel =>
        rw [HD.out] at ho
        have hmax : (if l[k].t % 2147483648 < J.lastT 0 (J.fine 0 (l.take k)) then J.lastT 0 (J.fine 0 (l.take k)) else l[k].t % 2147483648) = max (l[k].t % 2147483648) (J.lastT 0 (J.fine 0 (l.take k))) := by
          split <;> omega
        rw [hmax]
        have s4 := ((((ho.stored (k * 5) (.int .i32 (l[k].t % 2147483648))).1.stored (k * 5) (.int .i32 (max (l[k].t % 2147483648) (J.lastT 0 (J.fine 0 (l.take k)))))).1.stored (k * 5 + 1) (.int .i64 (l[k].n % 16 % 9 - 1))).1.stored (k * 5 + 2) (.int .u8 (1 + l[k].k % 9))).1
        rw [set_act _ _ _ k HF.out] at s4
        refine ⟨k + 1, by omega, by go_num, ?_, ?_, ?_⟩
        · rw [hnew.out, J.lastT_snoc]; rfl
        · rw [hnew.out, List.append_assoc, avs_append]
          exact s4
        · exact (((hb.setCell (p := ⟨g, k * 5, none⟩) hg _).setCell (p := ⟨g, k * 5, none⟩) hg _).setCell (p := ⟨g, k * 5 + 1, none⟩) hg _).setCell (p := ⟨g, k * 5 + 2, none⟩) hg _
      case measure => simp [intOf]; omega
    · obtain rfl : k = l.length := by omega
      rw [List.take_length] at *
      go_wp2
      go_ret
      exact ⟨a1, c1, rfl, by simpa using ho, hb⟩

end Go.Proofs.Ytobdibhadgfldaa
