/- The walk of the examples 'awake'. -/
import Derived.Test.YtobdibhadgfldaaJW12
namespace Go.Proofs.Ytobdibhadgfldaa
open Go.RowKit

/-- Put of acts that have just been laid. -/
theorem ex_put (L : List J.Act) (xs : Array Value) (n S : Nat) (hx : (avs L).toArray = xs) (hn : L.length = n) (hL : ∀ x ∈ L, x ∈ [J.one, J.two, J.far, J.nought]) (hl : n ≤ 2) (W : World) (hS : W.heap.size = S) :
    Calls Try.prog 18 #[.slice (some ⟨S, 0, none⟩) n n] (W.alloc (.cells xs 44)) fun e w' => ∃ a n c r, e = .returned (.tuple #[.slice a n c, .int .i64 r]) ∧ PutRes L w' a n c r ∧ Below W.heap.size W w' := by
  subst hx hn hS
  have hs := sl_new W (avs L) 44 L.length 5 (avs_length _) (by unfold maxLen; omega)
  refine (Put_any _ L.length L (by omega) (fun x hx => J.wf_all x (hL x hx)) _ (by rw [World.size_alloc]; exact hs)).mono ?_
  rintro e w' ⟨a, n, c, r, rfl, h, hb⟩
  exact ⟨a, n, c, r, rfl, h, ((Below.refl _ _).alloc (Nat.le_refl _) _).trans (Below.mono hb (by simp))⟩

theorem Sl.box {W : World} {B S : Nat} {x : J.Act} (h : Sl W B (some ⟨S, 0, none⟩) 1 1 5 (avs [x])) :
    W.cell? ⟨S, 0, none⟩ = some (.int .i32 x.t) ∧ W.cell? ⟨S, 1, none⟩ = some (.int .i64 x.n) ∧ W.cell? ⟨S, 2, none⟩ = some (.int .u8 x.k) ∧ W.cell? ⟨S, 3, none⟩ = some (.int .i32 x.c) ∧ W.cell? ⟨S, 4, none⟩ = some (.int .i32 x.x) := by
  have key : ∀ j v, (avs [x])[j]? = some v → W.cell? ⟨S, j, none⟩ = some v := by
    intro j v hv
    obtain ⟨b, o, e, _, hc⟩ := h.rd j v hv
    cases e
    rw [Nat.zero_add] at hc
    exact hc
  exact ⟨key 0 _ rfl, key 1 _ rfl, key 2 _ rfl, key 3 _ rfl, key 4 _ rfl⟩

theorem ex_whole35 (a : Option Addr) (c : Nat) (w : World) (hs : Sl w w.heap.size a 35 c 1 ((J.two36.take 35).map bv)) :
    Calls Try.prog 14 #[.slice a 35 c] w fun e w' => ∃ a' c', e = .returned (.tuple #[.slice a' 1 c', .int .i64 18]) ∧ Sl w' w'.heap.size a' 1 c' 5 (avs [J.one]) ∧ Below w.heap.size w w' := by
  have hl : (J.two36.take 35).length = 35 := by rw [List.length_take, J.ex_len]; rfl
  have h := Whole_any a c (J.two36.take 35) (by rw [hl]; omega) w (by rw [hl]; exact hs)
  rw [hl] at h
  refine h.mono ?_
  rintro e w' ⟨a', c', rfl, hs', hb⟩
  rw [J.ex_whole] at hs' ⊢
  exact ⟨a', c', rfl, hs', hb⟩
theorem ex_get37 (a : Option Addr) (c : Nat) (w : World) (hs : Sl w w.heap.size a 37 c 1 ((J.two36 ++ [0]).map bv)) :
    Calls Try.prog 11 #[.slice a 37 c] w fun e w' => ∃ a' c', e = .returned (.tuple #[.slice a' 0 c', .int .i64 370]) ∧ Below w.heap.size w w' := by
  have hl : (J.two36 ++ [0]).length = 37 := by rw [List.length_append, J.ex_len]; rfl
  have h := Get_any a c (J.two36 ++ [0]) (by rw [hl]; omega) w (by rw [hl]; exact hs)
  rw [hl] at h
  refine h.mono ?_
  rintro e w' ⟨a', c', rfl, hs', hb⟩
  rw [J.ex_get.1, J.ex_get.2]
  exact ⟨a', c', rfl, hb⟩
theorem ex_get0 (w : World) :
    Calls Try.prog 11 #[.slice none 0 0] w fun e w' => ∃ a' c', e = .returned (.tuple #[.slice a' 0 c', .int .i64 0]) ∧ Below w.heap.size w w' := by
  refine (Get_any none 0 [] (by simp) w (Sl.of_nil _ _ _)).mono ?_
  rintro e w' ⟨a', c', rfl, hs', hb⟩
  rw [J.ex_nil.1, J.ex_nil.2]
  exact ⟨a', c', rfl, hb⟩

theorem ex_pre (a : Option Addr) (c : Nat) (W : World) (hs : Sl W W.heap.size a 36 c 1 (J.two36.map bv)) (xs : Array Value) (hx : (([1, 0, 0, 0, 0, 4, 0, 0, 0, 0, 2, 0, 0, 0] : List UInt8).map bv).toArray = xs) :
    Calls Try.prog 25 #[.slice a 36 c, .slice (some ⟨W.heap.size, 0, none⟩) 14 14] (W.alloc (.cells xs 5)) fun e w' => e = .returned (.bool true) ∧ Below W.heap.size W w' := by
  subst hx
  have h2 := (sl_new W (([1, 0, 0, 0, 0, 4, 0, 0, 0, 0, 2, 0, 0, 0] : List UInt8).map bv) 5 14 1 rfl (by unfold maxLen; omega)).size
  refine (prefix_any a _ 36 c 14 14 J.two36 _ (by omega) _ (hs.later (Grows.alloc _ _)) h2).mono ?_
  rintro e w' ⟨rfl, hb⟩
  exact ⟨by rw [decide_eq_true J.ex_prefix], (Grows.alloc W _).trans (Below.mono hb (by simp))⟩
theorem ex_same (a : Option Addr) (c : Nat) (W : World) (hs : Sl W W.heap.size a 1 c 5 (avs [J.one])) (xs : Array Value) (hx : (avs [J.one]).toArray = xs) :
    Calls Try.prog 16 #[.slice a 1 c, .slice (some ⟨W.heap.size, 0, none⟩) 1 1] (W.alloc (.cells xs 44)) fun e w' => e = .returned (.bool true) ∧ Below W.heap.size W w' := by
  subst hx
  have h2 := (sl_new W (avs [J.one]) 44 1 5 rfl (by unfold maxLen; omega)).size
  refine (same_any a _ c 1 1 1 [J.one] [J.one] (by simp) (by simp) _ (hs.later (Grows.alloc _ _)) h2).mono ?_
  rintro e w' ⟨rfl, hb⟩
  exact ⟨by rw [decide_eq_true rfl], (Grows.alloc W _).trans (Below.mono hb (by simp))⟩

set_option maxHeartbeats 2000000 in
set_option maxRecDepth 100000 in
theorem awake_any (w : World) :
    Calls Try.prog 10 #[] w fun e w' => e = .returned (.bool true) ∧ Below w.heap.size w w' := by
  go_enter Try.func10, Try.ntmps10
  go_wp2_with fail
  obtain ⟨W0, hW0⟩ : ∃ W0, ((w.alloc (Obj.cells #[Value.int IntKind.i32 1, Value.int IntKind.i64 (-1), Value.int IntKind.u8 4, Value.int IntKind.i32 0, Value.int IntKind.i32 2] 44)).alloc
    (Obj.cells #[Value.int IntKind.i32 2, Value.int IntKind.i64 7, Value.int IntKind.u8 9, Value.int IntKind.i32 (-1), Value.int IntKind.i32 0] 44)) = W0 := ⟨_, rfl⟩
  rw [hW0]
  have hb0 : Below w.heap.size w W0 := by rw [← hW0]; exact ((Below.refl _ _).alloc (Nat.le_refl _) _).alloc (by simp) _
  have hO0 : Sl W0 W0.heap.size (some ⟨w.heap.size, 0, none⟩) 1 1 5 (avs [J.one]) := by
    rw [← hW0]; exact (sl_new w (avs [J.one]) 44 1 5 rfl (by unfold maxLen; omega)).later (Grows.alloc _ _)
  have hT0 : Sl W0 W0.heap.size (some ⟨w.heap.size + 1, 0, none⟩) 1 1 5 (avs [J.two]) := by
    have h := (sl_new (w.alloc (Obj.cells #[Value.int IntKind.i32 1, Value.int IntKind.i64 (-1), Value.int IntKind.u8 4, Value.int IntKind.i32 0, Value.int IntKind.i32 2] 44)) (avs [J.two]) 44 1 5 rfl (by unfold maxLen; omega))
    simp only [World.size_alloc] at h
    rw [← hW0]
    exact h.size
  have hz0 : W0.heap.size = w.heap.size + 1 + 1 := by rw [← hW0, World.size_alloc, World.size_alloc]
  refine (ex_put [J.one, J.two] _ 2 _ (by rfl) rfl (by simp) (by omega) W0 hz0).mono ?_
  clear hW0 hz0
  rintro e w1 ⟨a1, n1, c1, r1, rfl, hp, hb1⟩
  obtain ⟨rfl, hs1, hn1⟩ := PutRes_true hp (by decide)
  obtain rfl : n1 = 36 := hn1
  clear hp
  have hO1 := hO0.later hb1
  have hT1 := hT0.later hb1
  have hw1 := hb0.trans (hb1.mono hb0.size)
  clear hO0 hT0 hb0 hb1
  obtain ⟨o0, o1, o2, o3, o4⟩ := hO1.box
  obtain ⟨t0, t1, t2, t3, t4⟩ := hT1.box
  clear W0
  generalize hS : w.heap.size = S at *
  generalize hS1 : S + 1 = S1 at *
  clear hT1
  have HO1 := Lib.hid hO1
  have HS1 := Lib.hid hs1
  clear hO1 hs1
  go_wp2_with fail
  refine (ex_put [J.two, J.one] _ 2 _ (by rfl) rfl (by simp) (by omega) w1 rfl).mono ?_
  rintro e w2 ⟨a2, n2, c2, r2, rfl, hp, hb2⟩
  obtain ⟨rfl, rfl, rfl, rfl⟩ := PutRes_false hp (by decide)
  have HO2 := Lib.hid (HO1.out.later hb2)
  have HS2 := Lib.hid (HS1.out.later hb2)
  have hw2 := hw1.trans (hb2.mono (by have := hw1.size; omega))
  clear hp hb2 hw1 HO1 HS1 o0 o1 o2 o3 o4 t0 t1 t2 t3 t4
  go_wp2_with fail
  refine (ex_put [J.far] _ 1 _ (by rfl) rfl (by simp) (by omega) w2 rfl).mono ?_
  rintro e w3 ⟨a2, n2, c2, r2, rfl, hp, hb2⟩
  obtain ⟨rfl, rfl, rfl, rfl⟩ := PutRes_false hp (by decide)
  have HO3 := Lib.hid (HO2.out.later hb2)
  have HS3 := Lib.hid (HS2.out.later hb2)
  have hw3 := hw2.trans (hb2.mono (by have := hw2.size; omega))
  clear hp hb2 hw2 HO2 HS2
  go_wp2_with fail
  refine (ex_put [J.nought] _ 1 _ (by rfl) rfl (by simp) (by omega) w3 rfl).mono ?_
  rintro e w4 ⟨a2, n2, c2, r2, rfl, hp, hb2⟩
  obtain ⟨rfl, rfl, rfl, rfl⟩ := PutRes_false hp (by decide)
  have HO4 := Lib.hid (HO3.out.later hb2)
  have HS4 := Lib.hid (HS3.out.later hb2)
  have hw4 := hw3.trans (hb2.mono (by have := hw3.size; omega))
  clear hp hb2 hw3 HO3 HS3
  have hcap := HS4.out.cap
  have hmax : c1 ≤ 9223372036854775807 := by have := HS4.out.max; unfold maxLen at this; omega
  go_wp2_with fail
  refine (ex_whole35 a1 c1 w4 (by have := HS4.out.upto1 35 (by omega); rw [← List.map_take] at this; exact this)).mono ?_
  rintro e w5 ⟨a5, c5, rfl, hl5, hb2⟩
  have HO5 := Lib.hid (HO4.out.later hb2)
  have HS5 := Lib.hid (HS4.out.later hb2)
  have HL5 := Lib.hid hl5
  have hw5 := hw4.trans (hb2.mono (by have := hw4.size; omega))
  clear hb2 hw4 HO4 HS4 hl5
  go_wp2_with fail
  refine (ex_get0 w5).mono ?_
  rintro e w6 ⟨a6, c6, rfl, hb2⟩
  have HO6 := Lib.hid (HO5.out.later hb2)
  have HS6 := Lib.hid (HS5.out.later hb2)
  have HL6 := Lib.hid (HL5.out.later hb2)
  have hw6 := hw5.trans (hb2.mono (by have := hw5.size; omega))
  clear hb2 hw5 HO5 HS5 HL5
  go_wp2_with fail
  refine (cloneB_any a1 36 c1 J.two36 (by omega) w6 HS6.out).mono ?_
  rintro e w7 ⟨a7, c7, rfl, ho7, hb7⟩
  have hz7 := hb7.size
  have hsn := sl_new w7 (([0] : List UInt8).map bv) 5 1 1 rfl (by unfold maxLen; omega)
  go_wp2_with (at_builtin; go_must (refine app_own rfl (.tmp 79) (.tmp 80) 22 rfl Try.elB rfl (ho7.alloc _) rfl hsn (oneCell_bytes [0]) (by omega) (by omega) (by simp; omega) ?_))
  intro a8 c8 w8 h8 _ hb8
  have hb2 : Below w6.heap.size w6 w8 := hb7.trans (((Below.refl _ _).alloc hz7 _).trans hb8)
  have HO8 := Lib.hid (HO6.out.later hb2)
  have HS8 := Lib.hid (HS6.out.later hb2)
  have HL8 := Lib.hid (HL6.out.later hb2)
  have hw8 := hw6.trans (hb2.mono (by have := hw6.size; omega))
  have HG8 := Lib.hid (Sl.of_owns h8)
  clear hb2 hb7 hb8 hw6 HO6 HS6 HL6 h8 ho7 hsn
  go_wp2_with fail
  refine (ex_get37 a8 c8 w8 (by rw [List.map_append]; exact HG8.out)).mono ?_
  rintro e w9 ⟨a9, c9, rfl, hb2⟩
  have hO9 := HO8.out.later hb2
  obtain ⟨o0, o1, o2, o3, o4⟩ := hO9.box
  have HO9 := Lib.hid hO9
  have HS9 := Lib.hid (HS8.out.later hb2)
  have HL9 := Lib.hid (HL8.out.later hb2)
  have hw9 := hw8.trans (hb2.mono (by have := hw8.size; omega))
  clear hb2 hw8 HO8 HS8 HL8 HG8 hO9
  go_wp2_with fail
  refine (ex_pre a1 c1 w9 HS9.out _ (by rfl)).mono ?_
  rintro e wa ⟨rfl, hb2⟩
  have hOa := HO9.out.later hb2
  obtain ⟨p0, p1, p2, p3, p4⟩ := hOa.box
  have HLa := Lib.hid (HL9.out.later hb2)
  have hwa := hw9.trans (hb2.mono (by have := hw9.size; omega))
  clear hb2 hw9 HO9 HS9 HL9 hOa o0 o1 o2 o3 o4
  go_wp2_with fail
  refine (ex_same a5 c5 wa HLa.out _ (by rfl)).mono ?_
  rintro e wb ⟨rfl, hb2⟩
  have hwb := hwa.trans (hb2.mono (by have := hwa.size; omega))
  clear hb2 hwa HLa p0 p1 p2 p3 p4
  go_wp2
  go_ret
  exact ⟨rfl, hS ▸ hwb⟩

end Go.Proofs.Ytobdibhadgfldaa
