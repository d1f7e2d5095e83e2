/- The walks of number, four, put, and of the reference's number, Four, Record. -/
import Derived.Test.YtobdibhadgfldaaJW1
import Derived.Deep.RegionHeld3
import Derived.StillTailTactics
namespace Go.Proofs.Ytobdibhadgfldaa
open Go.RowKit

theorem Try.elB : Elem Try.prog 22 5 1 1 := elem_mk (z := .int .u8 0) (by kernel_rfl) Try.underlying22 rfl (by decide)

theorem num_walk (x0 x1 x2 x3 : UInt8) : bits BinOp.or IntKind.u32 (bits BinOp.or IntKind.u32 (bits BinOp.or IntKind.u32 (x0.toNat : Int) ((x1.toNat * 256 : Nat) : Int)) ((x2.toNat * 65536 : Nat) : Int)) ((x3.toNat * 16777216 : Nat) : Int)
    = ((x0.toNat + 256 * x1.toNat + 65536 * x2.toNat + 16777216 * x3.toNat : Nat) : Int) := by
  have h0 := x0.toNat_lt; have h1 := x1.toNat_lt; have h2 := x2.toNat_lt; have h3 := x3.toNat_lt
  rw [u32_or_nat _ _ (by omega) (by omega), Nat.or_comm, nat_join 8 _ _ (by omega) (by omega)]
  rw [u32_or_nat _ _ (by omega) (by omega), Nat.or_comm, nat_join 16 _ _ (by omega) (by omega)]
  rw [u32_or_nat _ _ (by omega) (by omega), Nat.or_comm, nat_join 24 _ _ (by omega) (by omega)]
  congr 1
  omega

set_option maxHeartbeats 400000 in
theorem number_any (a : Option Addr) (l : List UInt8) (c n : Nat) (hn : n = l.length) (hl : 4 ≤ l.length) (hl2 : l.length ≤ 4000000000) (w : World) (hc : Rd w w.heap.size a (l.map bv)) :
    Calls Try.prog 27 #[.slice a n c] w fun e w' => e = .returned (.int .u32 (J.num l : Nat)) ∧ Below w.heap.size w w' := by
  subst hn
  obtain ⟨b, o, rfl, _, hcc⟩ := hc.at (by simp; omega)
  have c0 := rd_byte hcc 0 (by omega)
  have c1 := rd_byte hcc 1 (by omega)
  have c2 := rd_byte hcc 2 (by omega)
  have c3 := rd_byte hcc 3 (by omega)
  have hnum : J.num l = l[0].toNat + 256 * l[1].toNat + 65536 * l[2].toNat + 16777216 * l[3].toNat := by
    unfold J.num
    simp only [List.getD_eq_getElem?_getD, List.getElem?_eq_getElem (show 0 < l.length by omega), List.getElem?_eq_getElem (show 1 < l.length by omega), List.getElem?_eq_getElem (show 2 < l.length by omega), List.getElem?_eq_getElem (show 3 < l.length by omega), Option.getD_some]
  have HN := Lib.hid hnum
  clear hcc hc hnum
  simp only [Nat.add_zero] at c0
  have b0 : (0 : Int) < l.length := by omega
  have b1 : (1 : Int) < l.length := by omega
  have b2 : (2 : Int) < l.length := by omega
  have b3 : (3 : Int) < l.length := by omega
  generalize l[0] = x0 at *
  generalize l[1] = x1 at *
  generalize l[2] = x2 at *
  generalize l[3] = x3 at *
  have h0 := x0.toNat_lt; have h1 := x1.toNat_lt; have h2 := x2.toNat_lt; have h3 := x3.toNat_lt
  go_enter Try.func27, Try.ntmps27
  go_wp2
  go_quiet (fail)
  go_wp2
  go_ret
  exact ⟨ret_int (by rw [HN.out, ← num_walk]; simp), below_drewN (Below.refl _ _) _⟩

/-- The bytes of a number, as the walk spells them. -/
def fourV (n : Int) : List Value := [.int .u8 (n % 256), .int .u8 (n / 256 % 256), .int .u8 (n / 65536 % 256), .int .u8 (n / 16777216 % 256)]
theorem fourV_eq (n : Nat) : fourV (n : Int) = (J.four n).map bv := by
  simp [fourV, J.four, UInt8.toNat_ofNat']

set_option maxHeartbeats 400000 in
theorem four_any (base : Nat) (v : Value) (m : Nat) (xs : List Value) (n : Nat) (hn : n < 4294967296) (w : World) (hm : m ≤ 1000000) (hb : base ≤ w.heap.size)
    (hown : w.ownsRow base 5 1 v m xs) :
    Calls Try.prog 36 #[v, .int .u32 (n : Nat)] w fun e w' => ∃ a c, e = .returned (.slice a (m + 4) c) ∧ w'.ownsRow base 5 1 (.slice a (m + 4) c) (m + 4) (xs ++ (J.four n).map bv) ∧ Below base w w' := by
  obtain ⟨a, c, rfl, _⟩ := owns_shape hown
  have hn' : (n : Int) < 4294967296 := by omega
  have hs := sl_new w ((J.four n).map bv) 5 4 1 (by simp [J.four]) (by unfold maxLen; omega)
  rw [← fourV_eq, show fourV (n : Int) = [.int .u8 (n % 256), .int .u8 (n / 256 % 256), .int .u8 (n / 65536 % 256), .int .u8 (n / 16777216)] from by unfold fourV; rw [show (n : Int) / 16777216 % 256 = n / 16777216 from by omega]] at hs
  have he := Lib.hid (show [Value.int .u8 ((n : Int) % 256), .int .u8 (n / 256 % 256), .int .u8 (n / 65536 % 256), .int .u8 (n / 16777216)] = (J.four n).map bv from by
    rw [← fourV_eq]; unfold fourV; rw [show (n : Int) / 16777216 % 256 = n / 16777216 from by omega])
  go_enter Try.func36, Try.ntmps36
  go_wp2_with (at_builtin; refine app_own rfl (.tmp 5) (.tmp 17) 22 rfl Try.elB rfl (hown.alloc _) rfl hs ?_ ?_ ?_ ?_ ?_)
  case refine_1 => rw [he.out]; exact oneCell_bytes _
  case refine_2 => omega
  case refine_3 => omega
  case refine_4 => simp; omega
  intro a' c' w' h1 _ h3
  go_wp2
  go_ret
  rw [he.out] at h1
  exact ⟨a', c', rfl, h1, ((Below.refl _ _).alloc hb _).trans h3⟩

/-- The cells of an act. -/
abbrev av (a : J.Act) : List Value := [.int .i32 a.t, .int .i64 a.n, .int .u8 a.k, .int .i32 a.c, .int .i32 a.x]

theorem u32_walk (n : Int) : n % 4294967296 = ((J.u32 n : Nat) : Int) := by unfold J.u32; omega

set_option maxHeartbeats 200000 in
theorem put_any (t n k c x : Int) (hw : J.Act.Wf ⟨t, n, k, c, x⟩) (hn0 : -1 ≤ n) (hn1 : n < 8) (before : Nat) (hbf : before < 4294967296) (w : World) :
    Calls Try.prog 29 #[.agg #[.int .i32 t, .int .i64 n, .int .u8 k, .int .i32 c, .int .i32 x], .int .u32 (before : Nat)] w fun e w' =>
      ∃ v c', e = .returned (.slice v 18 c') ∧ Sl w' w'.heap.size v 18 c' 1 ((J.rec ⟨t, n, k, c, x⟩ before).map bv) ∧ Below w.heap.size w w' := by
  have hu1 := J.u32_lt t
  have hu3 := J.u32_lt c
  have hu4 := J.u32_lt x
  have h10 : 10 ≤ 1000000 := by omega
  have h14 : 14 ≤ 1000000 := by omega
  have hc : IntKind.u32.wrap c = ((J.u32 c : Nat) : Int) := by rw [IntKind.wrap_u32']; exact u32_walk c
  have hx : IntKind.u32.wrap x = ((J.u32 x : Nat) : Int) := by rw [IntKind.wrap_u32']; exact u32_walk x
  have ht : IntKind.u32.wrap t = ((J.u32 t : Nat) : Int) := by rw [IntKind.wrap_u32']; exact u32_walk t
  go_enter Try.func29, Try.ntmps29
  go_wp2
  generalize hW : w.alloc _ = W
  have hsz : w.heap.size + 1 ≤ W.heap.size := by rw [← hW]; simp
  have x0 : W.cell? ⟨w.heap.size, 0, none⟩ = some (.int .i32 t) := by rw [← hW]; simp [go_sem]
  have x1 : W.cell? ⟨w.heap.size, 1, none⟩ = some (.int .i64 n) := by rw [← hW]; simp [go_sem]
  have x2 : W.cell? ⟨w.heap.size, 2, none⟩ = some (.int .u8 k) := by rw [← hW]; simp [go_sem]
  have x3 : W.cell? ⟨w.heap.size, 3, none⟩ = some (.int .i32 c) := by rw [← hW]; simp [go_sem]
  have x4 : W.cell? ⟨w.heap.size, 4, none⟩ = some (.int .i32 x) := by rw [← hW]; simp [go_sem]
  have hbW : Below w.heap.size w W := by rw [← hW]; exact (Below.refl _ _).alloc (Nat.le_refl _) _
  clear hW
  have hb1 : w.heap.size + 1 ≤ W.drew.heap.size := by show _ ≤ W.heap.size; omega
  have h4 : 4 ≤ 1000000 := by omega
  go_region_held3 (fun w' => w'.cell? ⟨w.heap.size, 0, none⟩ = some (.int .i32 t)) (go_keep)
    (first
      | (go_at_call 36; (with_reducible refine (four_any (w.heap.size + 1) (.slice none 0 0) 0 [] before hbf _ (Nat.zero_le _) hb1 (World.ownsRow_nil _ _ _ _)).mono ?_); rintro e w1 ⟨a1, c1, rfl, hown1, hbel1⟩; have hk1 := bbox hbel1 x0)
      | (go_at_call 36; (with_reducible refine (four_any (w.heap.size + 1) _ 4 _ _ hu1 _ h4 (Nat.le_trans hb1 hbel1.size) hown1).mono ?_); rintro e w2 ⟨a2, c2, rfl, hown2, hbel2⟩; have hk2 := bbox hbel2 hk1))

  have hB2 : Below (w.heap.size + 1) W w2 := (Below.refl _ _).drew.trans (hbel1.trans hbel2)
  have d1 := bbox hB2 x1
  have d2 := bbox hB2 x2
  have hbs2 : w.heap.size + 1 ≤ w2.heap.size := Nat.le_trans hb1 (Nat.le_trans hbel1.size hbel2.size)
  have hs := sl_new w2 ((J.mid n k).map bv) 5 2 1 rfl (by unfold maxLen; omega)
  have hk0 := hw.k
  dsimp only at hk0
  have e2 := Lib.hid (show (J.mid n k).map bv = [Value.int .u8 (n + 1), Value.int .u8 k] from by
    simp [bv, J.mid, UInt8.toNat_ofNat']; omega)
  rw [e2.out] at hs
  simp only [Nat.reduceAdd, List.nil_append] at hown2
  go_wp2_with (at_builtin; go_must (refine app_own rfl (.tmp 12) (.tmp 19) 22 rfl Try.elB rfl (hown2.alloc _) rfl hs ?_ (by omega) (by omega) (by simp; omega) ?_))
  case refine_1 => rw [← e2.out]; exact oneCell_bytes _
  intro a3 c3 w3 hown3 _ hbel3
  rw [← e2.out] at hown3
  have hB3 : Below (w.heap.size + 1) W w3 := hB2.trans (((Below.refl _ _).alloc hbs2 _).trans hbel3)
  have hbs3 : w.heap.size + 1 ≤ w3.heap.size := Nat.le_trans hbs2 (by have := hbel3.size; simp at this; omega)
  have hbd3 : w.heap.size + 1 ≤ w3.drew.heap.size := hbs3
  have d3 := bbox hB3 x3
  have d4 := bbox hB3 x4
  clear hs
  go_wp2_with fail
  go_region_held3 (fun w' => w'.cell? ⟨w.heap.size, 3, none⟩ = some (.int .i32 c) ∧ w'.cell? ⟨w.heap.size, 4, none⟩ = some (.int .i32 x)) (go_keep)
    (first
      | (go_at_call 36; (with_reducible refine (four_any (w.heap.size + 1) _ 10 _ _ hu3 _ h10 hbd3 hown3.drew).mono ?_); rintro e w4 ⟨a4, c4, rfl, hown4, hbel4⟩; have hk4 := bbox hbel4 d3; have hk5 := bbox hbel4 d4)
      | (go_at_call 36; (with_reducible refine (four_any (w.heap.size + 1) _ 14 _ _ hu4 _ h14 (Nat.le_trans hbd3 hbel4.size) hown4).mono ?_); rintro e w5 ⟨a5, c5, rfl, hown5, hbel5⟩; have hk6 := bbox hbel5 hk4; have hk7 := bbox hbel5 hk5))
  simp only [Nat.reduceAdd, ← List.map_append, List.append_assoc] at hown5
  have hB5 : Below (w.heap.size + 1) W w5 := hB3.trans ((Below.refl _ _).drew.trans (hbel4.trans hbel5))
  have hbs5 : w.heap.size + 1 ≤ w5.heap.size := Nat.le_trans hbd3 (Nat.le_trans hbel4.size hbel5.size)
  have hsl5 := Sl.of_owns hown5
  have hb5 : J.four before ++ (J.four (J.u32 t) ++ (J.mid n k ++ (J.four (J.u32 c) ++ J.four (J.u32 x)))) = J.four before ++ J.body ⟨t, n, k, c, x⟩ := by
    simp [J.body, List.append_assoc]
  rw [hb5] at hown5 hsl5
  have hlen : 18 = (J.four before ++ J.body ⟨t, n, k, c, x⟩).length := by simp [J.four, J.body, J.mid]
  have hcl := J.crc_lt (J.four before ++ J.body ⟨t, n, k, c, x⟩)
  have hsum := sum_any a5 (J.four before ++ J.body ⟨t, n, k, c, x⟩) c5 (by rw [← hlen]; omega) w5 (by rw [← hlen] at *; exact hsl5.rd)
  rw [← hlen] at hsum
  have HS := Lib.hid hsum
  clear hsum hb5 hlen hk4 hk5 hk6 hk7 d1 d2 d3 d4
  go_wp2_with fail
  refine HS.out.mono ?_
  rintro e w' ⟨rfl, rfl⟩
  go_wp2_with fail
  refine (four_any (w.heap.size + 1) _ 18 _ _ hcl _ (by omega) hbs5 hown5).mono ?_
  rintro e w6 ⟨a6, c6, rfl, hown6, hbel6⟩
  simp only [Nat.reduceAdd, ← List.map_append] at hown6
  obtain ⟨g, rfl, hg, hc6, hm6⟩ := owns_at hown6 (by omega)
  have hm6' : c6 ≤ 9223372036854775807 := by unfold maxLen at hm6; omega
  have hlt6 : 4 < c6 := by omega
  clear hm6
  go_wp2
  go_ret
  refine ⟨_, _, rfl, ?_, hbW.trans ((hB5.trans hbel6).mono (Nat.le_succ _))⟩
  have hs6 := (Sl.of_owns hown6).from1 4 (by omega)
  rw [← List.map_drop, show (J.four before ++ J.body ⟨t, n, k, c, x⟩ ++ J.four (J.crc (J.four before ++ J.body ⟨t, n, k, c, x⟩))).drop 4 = J.rec ⟨t, n, k, c, x⟩ before from rfl, Nat.zero_add] at hs6
  exact hs6

end Go.Proofs.Ytobdibhadgfldaa
