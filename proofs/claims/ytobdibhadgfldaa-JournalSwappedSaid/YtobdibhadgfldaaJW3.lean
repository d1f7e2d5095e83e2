/- The walks of the reference's number, Four, Record; Clone and Equal of bytes and acts. -/
import Derived.Test.YtobdibhadgfldaaJW2
namespace Go.Proofs.Ytobdibhadgfldaa
open Go.RowKit

theorem rnum_walk (x0 x1 x2 x3 : UInt8) : ((x0.toNat : Int) + 256 * x1.toNat + 65536 * x2.toNat + 16777216 * x3.toNat)
    = ((x0.toNat + 256 * x1.toNat + 65536 * x2.toNat + 16777216 * x3.toNat : Nat) : Int) := by omega

set_option maxHeartbeats 400000 in
theorem rnumber_any (a : Option Addr) (l : List UInt8) (c n : Nat) (hn : n = l.length) (hl : 4 ≤ l.length) (hl2 : l.length ≤ 4000000000) (w : World) (hc : Rd w w.heap.size a (l.map bv)) :
    Calls Try.prog 30 #[.slice a n c] w fun e w' => e = .returned (.int .u32 (J.num l : Nat)) ∧ Below w.heap.size w w' := by
  subst hn
  obtain ⟨b, o, rfl, _, hcc⟩ := hc.at (by simp; omega)
  have c0 := rd_byte hcc 0 (by omega)
  have c1 := rd_byte hcc 1 (by omega)
  have c2 := rd_byte hcc 2 (by omega)
  have c3 := rd_byte hcc 3 (by omega)
  have hnum : J.num l = l[0].toNat + 256 * l[1].toNat + 65536 * l[2].toNat + 16777216 * l[3].toNat := by
    unfold J.num
    simp only [List.getD_eq_getElem?_getD, List.getElem?_eq_getElem (show 0 < l.length by omega), List.getElem?_eq_getElem (show 1 < l.length by omega), List.getElem?_eq_getElem (show 2 < l.length by omega), List.getElem?_eq_getElem (show 3 < l.length by omega), Option.getD_some]
  have HN := Lib.hid hnum
  clear hcc hc hnum
  simp only [Nat.add_zero] at c0
  have b0 : (0 : Int) < l.length := by omega
  have b1 : (1 : Int) < l.length := by omega
  have b2 : (2 : Int) < l.length := by omega
  have b3 : (3 : Int) < l.length := by omega
  generalize l[0] = x0 at *
  generalize l[1] = x1 at *
  generalize l[2] = x2 at *
  generalize l[3] = x3 at *
  have h0 := x0.toNat_lt; have h1 := x1.toNat_lt; have h2 := x2.toNat_lt; have h3 := x3.toNat_lt
  go_enter Try.func30, Try.ntmps30
  go_wp2
  go_quiet (fail)
  go_wp2
  go_ret
  exact ⟨ret_int (by rw [HN.out, ← rnum_walk]), below_drewN (Below.refl _ _) _⟩

set_option maxHeartbeats 400000 in
theorem rfour_any (n : Nat) (hn : n < 4294967296) (w : World) :
    Calls Try.prog 38 #[.int .u32 (n : Nat)] w fun e w' => ∃ g, e = .returned (.slice (some g) 4 4) ∧ w'.ownsRow w.heap.size 5 1 (.slice (some g) 4 4) 4 ((J.four n).map bv) ∧ Below w.heap.size w w' := by
  have hn' : (n : Int) < 4294967296 := by omega
  have hs := owns_new w ((J.four n).map bv) 5 4 1 w.heap.size (by simp [J.four]) (by unfold maxLen; omega) (Nat.le_refl _)
  have he : (J.four n).map bv = [Value.int .u8 ((n : Int) % 256), .int .u8 (n / 256 % 256), .int .u8 (n / 65536 % 256), .int .u8 (n / 16777216)] := by
    rw [← fourV_eq]; unfold fourV; rw [show (n : Int) / 16777216 % 256 = n / 16777216 from by omega]
  rw [he] at hs
  have HE := Lib.hid he
  clear he
  go_enter Try.func38, Try.ntmps38
  go_wp2
  go_ret
  rw [HE.out]
  exact ⟨_, rfl, hs, (Below.refl _ _).alloc (Nat.le_refl _) _⟩

set_option maxHeartbeats 400000 in
theorem record_any (t n k c x : Int) (hw : J.Act.Wf ⟨t, n, k, c, x⟩) (hn0 : -1 ≤ n) (hn1 : n < 8) (before : Nat) (hbf : before < 4294967296) (w : World) :
    Calls Try.prog 32 #[.agg #[.int .i32 t, .int .i64 n, .int .u8 k, .int .i32 c, .int .i32 x], .int .u32 (before : Nat)] w fun e w' =>
      ∃ v c', e = .returned (.slice v 18 c') ∧ Sl w' w'.heap.size v 18 c' 1 ((J.rec ⟨t, n, k, c, x⟩ before).map bv) ∧ Below w.heap.size w w' := by
  have hu1 := J.u32_lt t
  have hu3 := J.u32_lt c
  have hu4 := J.u32_lt x
  have hc : IntKind.u32.wrap c = ((J.u32 c : Nat) : Int) := by rw [IntKind.wrap_u32']; exact u32_walk c
  have hx : IntKind.u32.wrap x = ((J.u32 x : Nat) : Int) := by rw [IntKind.wrap_u32']; exact u32_walk x
  have ht : IntKind.u32.wrap t = ((J.u32 t : Nat) : Int) := by rw [IntKind.wrap_u32']; exact u32_walk t
  have hk0 := hw.k
  dsimp only at hk0
  go_enter Try.func32, Try.ntmps32
  go_wp2_with fail
  generalize hW : w.alloc _ = W
  have hsz : w.heap.size + 1 ≤ W.heap.size := by rw [← hW]; simp
  have x1 : W.cell? ⟨w.heap.size, 1, none⟩ = some (.int .i64 n) := by rw [← hW]; simp [go_sem]
  have x2 : W.cell? ⟨w.heap.size, 2, none⟩ = some (.int .u8 k) := by rw [← hW]; simp [go_sem]
  have x3 : W.cell? ⟨w.heap.size, 3, none⟩ = some (.int .i32 c) := by rw [← hW]; simp [go_sem]
  have x4 : W.cell? ⟨w.heap.size, 4, none⟩ = some (.int .i32 x) := by rw [← hW]; simp [go_sem]
  have hbW : Below w.heap.size w W := by rw [← hW]; exact (Below.refl _ _).alloc (Nat.le_refl _) _
  clear hW
  refine (rfour_any _ hu1 _).mono ?_
  rintro e w1 ⟨g1, rfl, ho1, hb1⟩
  have hz1 : w.heap.size + 1 ≤ w1.heap.size := Nat.le_trans hsz hb1.size
  go_wp2_with (at_builtin; go_must (refine app_own rfl (.tmp 7) (.tmp 11) 22 rfl Try.elB rfl (World.ownsRow_nil _ (w.heap.size + 1) _ _) rfl (Sl.of_owns ho1) (oneCell_bytes _) (by omega) (by omega) hz1 ?_))
  intro a2 c2 w2 ho2 _ hb2
  try simp only [Nat.zero_add, List.nil_append] at ho2
  have hB2 : Below (w.heap.size + 1) W w2 := (hb1.mono hsz).trans hb2
  have hz2 : w.heap.size + 1 ≤ w2.heap.size := Nat.le_trans hsz hB2.size
  have d1 := bbox hB2 x1
  have d2 := bbox hB2 x2
  have hs := sl_new w2 ((J.mid n k).map bv) 5 2 1 rfl (by unfold maxLen; omega)
  have e2 := Lib.hid (show (J.mid n k).map bv = [Value.int .u8 (n + 1), Value.int .u8 k] from by
    simp [bv, J.mid, UInt8.toNat_ofNat']; omega)
  rw [e2.out] at hs
  go_wp2_with (at_builtin; go_must (refine app_own rfl (.tmp 13) (.tmp 20) 22 rfl Try.elB rfl (ho2.alloc _) rfl hs (by rw [← e2.out]; exact oneCell_bytes _) (by omega) (by omega) (by simp; omega) ?_))
  intro a3 c3 w3 ho3 _ hb3
  rw [← e2.out] at ho3
  have hB3 : Below (w.heap.size + 1) W w3 := hB2.trans (((Below.refl _ _).alloc hz2 _).trans hb3)
  have hz3 : w.heap.size + 1 ≤ w3.heap.size := Nat.le_trans hsz hB3.size
  have d3 := bbox hB3 x3
  clear d1 d2 hs
  go_wp2_with fail
  refine (rfour_any _ hu3 _).mono ?_
  rintro e w4 ⟨g4, rfl, ho4, hb4⟩
  have hz4 : w.heap.size + 1 ≤ w4.heap.size := Nat.le_trans hz3 hb4.size
  go_wp2_with (at_builtin; go_must (refine app_own rfl (.tmp 22) (.tmp 26) 22 rfl Try.elB rfl (owns_later ho3 hb4 (Nat.le_refl _)) rfl (Sl.of_owns ho4) (oneCell_bytes _) (by omega) (by omega) hz4 ?_))
  intro a5 c5 w5 ho5 _ hb5
  have hB5 : Below (w.heap.size + 1) W w5 := hB3.trans ((hb4.mono hz3).trans hb5)
  have hz5 : w.heap.size + 1 ≤ w5.heap.size := Nat.le_trans hsz hB5.size
  have d4 := bbox hB5 x4
  clear d3
  go_wp2_with fail
  refine (rfour_any _ hu4 _).mono ?_
  rintro e w6 ⟨g6, rfl, ho6, hb6⟩
  have hz6 : w.heap.size + 1 ≤ w6.heap.size := Nat.le_trans hz5 hb6.size
  go_wp2_with (at_builtin; go_must (refine app_own rfl (.tmp 28) (.tmp 32) 22 rfl Try.elB rfl (owns_later ho5 hb6 (Nat.le_refl _)) rfl (Sl.of_owns ho6) (oneCell_bytes _) (by omega) (by omega) hz6 ?_))
  intro a7 c7 w7 ho7 _ hb7
  have hB7 : Below (w.heap.size + 1) W w7 := hB5.trans ((hb6.mono hz5).trans hb7)
  have hz7 : w.heap.size + 1 ≤ w7.heap.size := Nat.le_trans hsz hB7.size
  try simp only [← List.map_append] at ho7
  have hbd : J.four (J.u32 t) ++ (J.mid n k ++ (J.four (J.u32 c) ++ J.four (J.u32 x))) = J.body ⟨t, n, k, c, x⟩ := by
    simp [J.body, List.append_assoc]
  rw [hbd] at ho7
  clear d4 hbd
  go_wp2_with fail
  refine (rfour_any _ hbf _).mono ?_
  rintro e w8 ⟨g8, rfl, ho8, hb8⟩
  have ho7' := owns_later ho7 hb8 (Nat.le_refl _)
  go_wp2_with (at_builtin; go_must (refine app_own rfl (.tmp 35) (.tmp 36) 22 rfl Try.elB rfl ho8 rfl (Sl.of_owns ho7') (oneCell_bytes _) (by omega) (by omega) hb8.size ?_))
  intro a9 c9 w9 ho9 _ hb9
  have ho7'' := owns_later ho7 (hb8.trans hb9) (Nat.le_refl _)
  try simp only [← List.map_append] at ho9
  have hlen : 18 = (J.four before ++ J.body ⟨t, n, k, c, x⟩).length := by simp [J.four, J.body, J.mid]
  have hcl := J.crc_lt (J.four before ++ J.body ⟨t, n, k, c, x⟩)
  have hsum := rsum_any a9 (J.four before ++ J.body ⟨t, n, k, c, x⟩) c9 (by rw [← hlen]; omega) w9 (Sl.of_owns ho9).rd
  rw [← hlen] at hsum
  have HS := Lib.hid hsum
  clear hsum hlen
  go_wp2_with fail
  refine HS.out.mono ?_
  rintro e w' ⟨rfl, rfl⟩
  go_wp2_with fail
  refine (rfour_any _ hcl _).mono ?_
  rintro e w10 ⟨g10, rfl, ho10, hb10⟩
  have hz9 : w.heap.size + 1 ≤ w10.heap.size := Nat.le_trans hz7 (Nat.le_trans (hb8.trans hb9).size hb10.size)
  go_wp2_with (at_builtin; go_must (refine app_own rfl (.tmp 39) (.tmp 41) 22 rfl Try.elB rfl (owns_later ho7'' hb10 (Nat.le_refl _)) rfl (Sl.of_owns ho10) (oneCell_bytes _) (by omega) (by omega) hz9 ?_))
  intro a11 c11 w11 ho11 _ hb11
  go_wp2
  go_ret
  rw [← List.map_append] at ho11
  refine ⟨_, _, rfl, Sl.of_owns ho11, hbW.trans ((hB7.mono (Nat.le_succ _)).trans (((hb8.trans hb9).mono (Nat.le_of_succ_le hz7)).trans ((hb10.mono ?_).trans (hb11.mono (Nat.le_succ _)))))⟩
  exact Nat.le_of_succ_le (Nat.le_trans hz7 (hb8.trans hb9).size)

end Go.Proofs.Ytobdibhadgfldaa
