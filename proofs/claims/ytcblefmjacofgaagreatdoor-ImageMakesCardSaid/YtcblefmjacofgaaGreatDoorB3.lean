/- Parts: I9, I10, I11, I12, I13, I14. -/
import Derived.Test.YtcblefmjacofgaaGreatDoorB2
import Derived.Test.YtcblefmjacofgaaGreatDoorA5
import Derived.Test.YtcblefmjacofgaaGreatDoorA1
import Derived.Deep.RegionHeld3
import Derived.Deep.QuietTactic
import Derived.BigQuiet
import Derived.Laws.BitsAllLaws
import Derived.IntWalk
import Derived.WalkSmall
set_option linter.all false
set_option linter.unusedVariables false
set_option linter.unusedSimpArgs false
namespace Go.Proofs.YtcblefmjacofgaaGreatDoor
open Go.RowKit
structure LP where
  a : Option Addr
  n : Nat
  c : Nat
  l : List I.Line
abbrev LP.val (p : LP) : Value := .slice p.a p.n p.c
def LP.ok (w : World) (p : LP) : Prop := p.n = p.l.length ∧ Sl w w.heap.size p.a p.n p.c 5 (lns p.l)
def LP.own (base : Nat) (w : World) (p : LP) : Prop := p.n = p.l.length ∧ w.ownsRow base 88 5 p.val p.n (lns p.l)
theorem LP.own.ok {base : Nat} {w : World} {p : LP} (h : p.own base w) : p.ok w := ⟨h.1, Sl.of_owns h.2⟩
theorem LP.ok.later {w w' : World} {p : LP} (h : p.ok w) (hg : Below w.heap.size w w') : p.ok w' := ⟨h.1, h.2.later hg⟩
def lall (ps : List LP) : List I.Line := ps.flatMap LP.l
theorem lall_snoc (ps : List LP) (k : Nat) (h : k < ps.length) : lall (ps.take (k + 1)) = lall (ps.take k) ++ ps[k].l := by
  rw [List.take_succ_eq_append_getElem h]
  unfold lall
  rw [List.flatMap_append]
  simp only [List.flatMap_cons, List.flatMap_nil, List.append_nil]
theorem lall_le (ps : List LP) (k : Nat) : (lall (ps.take k)).length ≤ (lall ps).length := by
  have : lall ps = lall (ps.take k) ++ lall (ps.drop k) := by
    unfold lall; rw [← List.flatMap_append, List.take_append_drop]
  rw [this, List.length_append]; omega
theorem lns_append (a b : List I.Line) : lns (a ++ b) = lns a ++ lns b := by simp [lns]
theorem oneCell_lns (l : List I.Line) : ∀ u ∈ lns l, u.oneCell' = true := by
  intro u hu
  obtain ⟨x, _, h⟩ := List.mem_flatMap.1 hu
  simp only [List.mem_cons, List.not_mem_nil, or_false] at h
  rcases h with rfl | rfl | rfl | rfl | rfl <;> rfl
def MakesL (l : List I.Line) (w : World) (e : Ending) (w' : World) : Prop := ∃ p : LP, p.l = l ∧ e = .returned p.val ∧ p.own w.heap.size w' ∧ Below w.heap.size w w'
set_option maxHeartbeats 1000000 in
theorem fn_any (f : Nat) (a : Int) (w : World) : Calls Tryz.prog 53 #[.int .u8 (f : Nat), .int .i32 a] w (MakesL [I.ln f a] w) := by
  go_enter Tryz.func53, Tryz.ntmps53
  go_wp2_with fail
  go_ret
  refine ⟨⟨some ⟨w.heap.size, 0, none⟩, 1, 1, [I.ln f a]⟩, rfl, rfl, ⟨rfl, ?_⟩, (Below.refl _ _).alloc (Nat.le_refl _) _⟩
  exact owns_new w [.string ⟨#[]⟩, .int .u8 (f : Nat), .int .i32 a, .string ⟨#[]⟩, .string ⟨#[]⟩] 88 1 5 w.heap.size rfl (by unfold maxLen; omega) (Nat.le_refl _)
set_option maxHeartbeats 1000000 in
theorem jump_any (f : Nat) (s : List UInt8) (w : World) : Calls Tryz.prog 57 #[.int .u8 (f : Nat), .string ⟨s.toArray⟩] w (MakesL [I.lj f s] w) := by
  go_enter Tryz.func57, Tryz.ntmps57
  go_wp2_with fail
  go_ret
  refine ⟨⟨some ⟨w.heap.size, 0, none⟩, 1, 1, [I.lj f s]⟩, rfl, rfl, ⟨rfl, ?_⟩, (Below.refl _ _).alloc (Nat.le_refl _) _⟩
  exact owns_new w [.string ⟨#[]⟩, .int .u8 (f : Nat), .int .i32 0, .string ⟨s.toArray⟩, .string ⟨#[]⟩] 88 1 5 w.heap.size rfl (by unfold maxLen; omega) (Nat.le_refl _)
set_option maxHeartbeats 1000000 in
theorem op_any (a : Int) (w : World) : Calls Tryz.prog 58 #[.int .i32 a] w (MakesL [I.ln 15 a] w) := by
  have h := fn_any 15 a w
  go_enter Tryz.func58, Tryz.ntmps58
  go_wp2_with fail
  refine h.mono ?_
  rintro e w1 ⟨p, hp, rfl, ho, hb⟩
  replace ho := Lib.hid ho
  replace hp := Lib.hid hp
  go_wp2_with fail
  go_ret
  exact ⟨p, hp.out, rfl, ho.out, hb⟩
set_option maxHeartbeats 1000000 in
theorem ldl_any (a : Int) (w : World) : Calls Tryz.prog 52 #[.int .i32 a] w (MakesL [I.ln 7 a] w) := by
  have h := fn_any 7 a w
  go_enter Tryz.func52, Tryz.ntmps52
  go_wp2_with fail
  refine h.mono ?_
  rintro e w1 ⟨p, hp, rfl, ho, hb⟩
  replace ho := Lib.hid ho
  replace hp := Lib.hid hp
  go_wp2_with fail
  go_ret
  exact ⟨p, hp.out, rfl, ho.out, hb⟩
set_option maxHeartbeats 1000000 in
set_option maxRecDepth 100000 in
theorem named_any (s : List UInt8) (base : Nat) (p : LP) (x : I.Line) (r : List I.Line) (hl : p.l = x :: r) (w : World) (ho : p.own base w) :
    Calls Tryz.prog 55 #[.string ⟨s.toArray⟩, p.val] w fun e w' => ∃ p' : LP, p'.l = { x with lab := s } :: r ∧ e = .returned p'.val ∧ p'.own base w' ∧ Below base w w' := by
  obtain ⟨pa, n, c, pl⟩ := p
  dsimp only at hl
  subst hl
  obtain ⟨hn, ho⟩ := ho
  dsimp only at hn ho
  have hn0 : 0 < n := by rw [hn]; simp
  have h0 : (0 : Int) < (n : Int) := by rw [hn]; simp
  obtain ⟨g, rfl, hg, _, _⟩ := owns_at ho hn0
  dsimp only [LP.val] at *
  have hfz := ho.frozenAt 0
  have hc := ho.cellAt 0 (by simpa [lns] using hn0)
  have hs := ho.stored 0 (.string ⟨s.toArray⟩)
  have e1 : (lns (x :: r)).set 0 (.string ⟨s.toArray⟩) = lns ({ x with lab := s } :: r) := rfl
  rw [e1] at hs
  replace hs := Lib.hid hs
  generalize hv : (lns (x :: r))[0]'(by simp [lns]) = v at *
  clear hv e1
  replace hn := Lib.hid hn
  replace ho := Lib.hid ho
  go_enter Tryz.func55, Tryz.ntmps55
  go_wp2_with fail
  go_ret
  exact ⟨⟨_, _, _, { x with lab := s } :: r⟩, rfl, rfl, ⟨hn.out, hs.out.1⟩, (Below.refl _ _).setCell (p := ⟨g, 0, none⟩) hg _⟩
set_option maxHeartbeats 2000000 in
set_option maxRecDepth 100000 in
theorem join_any (ps : List LP) (s : Option Addr) (m c : Nat) (hm : ps.length = m) (hmax : (lall ps).length ≤ 1000) (w : World) (hs : Sl w w.heap.size s m c 1 (ps.map LP.val)) (hp : ∀ p ∈ ps, p.ok w) :
    Calls Tryz.prog 54 #[.slice s m c] w (MakesL (lall ps) w) := by
  subst hm
  have hcap := hs.cap
  have hmx := hs.max
  unfold maxLen at hmx
  go_enter Tryz.func54, Tryz.ntmps54
  go_wp2_with fail
  go_loopg [3, 5, 8] ps.length (fun g v _ i wr => ∃ (k : Nat) (va : Option Addr) (vn vc : Nat), k ≤ ps.length ∧ g = ps.length - k ∧ i = .int .i64 (k : Nat) ∧ v = .slice va vn vc ∧ Hid ((lall (ps.take k)).length = vn) ∧
      wr.ownsRow w.heap.size 88 5 (.slice va vn vc) vn (lns (lall (ps.take k))) ∧ Below w.heap.size w wr)
  case atStart => exact ⟨0, none, 0, 0, Nat.zero_le _, rfl, rfl, rfl, rfl, ⟨rfl, .inl ⟨rfl, rfl⟩⟩, Below.refl _ _⟩
  case round =>
    obtain ⟨k, va, vn, vc, hk, rfl, rfl, rfl, hvn, ho, hb⟩ := hrel
    have hle := lall_le ps k
    by_cases hlt : k < ps.length
    · obtain ⟨b, o, rfl, hbb, hcell⟩ := (hs.below hb (Nat.le_refl _)).rd k ps[k].val (by simp [hlt])
      have hsn := lall_snoc ps k hlt
      obtain ⟨hn, hpk⟩ := hp ps[k] (List.getElem_mem hlt)
      have hle2 := lall_le ps (k + 1)
      generalize ps[k] = P at *
      obtain ⟨pa, y, pc, pl⟩ := P
      dsimp only at hn hpk
      rw [hsn, List.length_append, ← hn, hvn.out] at hle2
      replace hsn := Lib.hid hsn
      replace hn := Lib.hid hn
      have hpr := hpk.below hb (Nat.le_refl _)
      simp only [LP.val] at hcell
      have hz := hb.size
      go_wp2_with (at_builtin; go_must (refine app_own rfl (.tmp 12) (.tmp 13) 62 rfl Tryz.elL rfl ho rfl hpr (oneCell_lns _) (by omega) (by omega) hz ?_))
      intro a' c' w' q1 q2 q3
      go_wp2_with fail
      go_roundg (ps.length - (k + 1))
      case rel => exact ⟨k + 1, a', vn + y, c', by omega, rfl, by go_num, rfl, by show _ = _; rw [hsn.out, List.length_append, ← hn.out, hvn.out], by rw [hsn.out, lns_append]; exact q1, hb.trans q3⟩
      case measure => omega
    · obtain rfl : k = ps.length := by omega
      rw [List.take_length] at *
      replace ho := Lib.hid ho
      go_wp2_with fail
      go_ret
      exact ⟨⟨va, vn, vc, lall ps⟩, rfl, rfl, ⟨hvn.out.symm, ho.out⟩, hb⟩
set_option maxHeartbeats 1000000 in
theorem transfer_any (o : Int) (A B C : LP) (hmax : A.l.length + B.l.length + C.l.length ≤ 900) (w : World) (hA : A.ok w) (hB : B.ok w) (hC : C.ok w) :
    Calls Tryz.prog 56 #[.int .i32 o, A.val, B.val, C.val] w (MakesL (A.l ++ B.l ++ C.l ++ [I.ln 15 o]) w) := by
  have h := op_any o w
  replace hA := Lib.hid hA
  replace hB := Lib.hid hB
  replace hC := Lib.hid hC
  go_enter Tryz.func56, Tryz.ntmps56
  go_wp2_with fail
  refine h.mono ?_
  rintro e w1 ⟨p, hp, rfl, ho, hb⟩
  replace ho := Lib.hid ho
  replace hp := Lib.hid hp
  go_wp2_with fail
  refine (join_any [A, B, C, p] (some ⟨w1.heap.size, 0, none⟩) 4 4 rfl (by simp [lall, hp.out]; omega) _ (sl_new w1 [A.val, B.val, C.val, p.val] 62 4 1 rfl (by unfold maxLen; omega)).size ?_).mono ?_
  · intro q hq
    have hg : Below w1.heap.size w1 (w1.alloc (.cells #[A.val, B.val, C.val, p.val] 62)) := (Below.refl _ _).alloc (Nat.le_refl _) _
    simp only [List.mem_cons, List.not_mem_nil, or_false] at hq
    rcases hq with rfl | rfl | rfl | rfl
    · exact (hA.out.later hb).later hg
    · exact (hB.out.later hb).later hg
    · exact (hC.out.later hb).later hg
    · exact ho.out.ok.later hg
  · rintro e w2 ⟨r, hr, rfl, ho2, hb2⟩
    replace ho2 := Lib.hid ho2
    replace hr := Lib.hid hr
    go_wp2_with fail
    go_ret
    have hz := hb.size
    have hsz : (w1.alloc (.cells #[A.val, B.val, C.val, p.val] 62)).heap.size = w1.heap.size + 1 := by simp
    exact ⟨r, by rw [hr.out]; simp [lall, hp.out], rfl, ⟨ho2.out.1, owns_mono ho2.out.2 (by omega)⟩, (hb.alloc hz _).trans (hb2.mono (by omega))⟩
end Go.Proofs.YtcblefmjacofgaaGreatDoor
namespace Go.Proofs.YtcblefmjacofgaaGreatDoor
open Go.RowKit
theorem lives {L : List LP} {w w' : World} {p : LP} (h : ∀ q ∈ L, q.ok w) (hb : Below w.heap.size w w') (hp : p.ok w') : ∀ q ∈ p :: L, q.ok w' := by
  intro q hq
  rcases List.mem_cons.1 hq with rfl | hq
  · exact hp
  · exact (h q hq).later hb
set_option maxHeartbeats 20000000 in
set_option maxRecDepth 100000 in
theorem lines_any (w : World) : Calls Tryz.prog 28 #[] w (MakesL I.bootL w) := by
  have H : Hid (∀ q ∈ ([] : List LP), q.ok w) := fun q hq => by cases hq
  have B : Hid (Below w.heap.size w w) := Below.refl _ _
  go_enter Tryz.func28, Tryz.ntmps28
  go_wp2_with fail
  refine (fn_any 11 8 w).mono ?_
  rintro e w2 ⟨p2, l2, rfl, o2, b2⟩
  have H2 := Lib.hid (lives H.out b2 o2.ok)
  replace l2 := Lib.hid l2
  have B2 := Lib.hid (B.out.trans (b2.mono B.out.size)); replace B := B2; clear B2
  replace H := H2; clear H2 o2 b2
  go_wp2_with fail
  refine (fn_any 13 0 w2).mono ?_
  rintro e w3 ⟨p3, l3, rfl, o3, b3⟩
  have H3 := Lib.hid (lives H.out b3 o3.ok)
  replace l3 := Lib.hid l3
  have B2 := Lib.hid (B.out.trans (b3.mono B.out.size)); replace B := B2; clear B2
  replace H := H3; clear H3 o3 b3
  go_wp2_with fail
  refine (fn_any 13 0 w3).mono ?_
  rintro e w4 ⟨p4, l4, rfl, o4, b4⟩
  have H4 := Lib.hid (lives H.out b4 o4.ok)
  replace l4 := Lib.hid l4
  have B2 := Lib.hid (B.out.trans (b4.mono B.out.size)); replace B := B2; clear B2
  replace H := H4; clear H4 o4 b4
  go_wp2_with fail
  refine (fn_any 13 1 w4).mono ?_
  rintro e w5 ⟨p5, l5, rfl, o5, b5⟩
  have H5 := Lib.hid (lives H.out b5 o5.ok)
  replace l5 := Lib.hid l5
  have B2 := Lib.hid (B.out.trans (b5.mono B.out.size)); replace B := B2; clear B2
  replace H := H5; clear H5 o5 b5
  go_wp2_with fail
  refine (fn_any 1 2 w5).mono ?_
  rintro e w6 ⟨p6, l6, rfl, o6, b6⟩
  have H6 := Lib.hid (lives H.out b6 o6.ok)
  replace l6 := Lib.hid l6
  have B2 := Lib.hid (B.out.trans (b6.mono B.out.size)); replace B := B2; clear B2
  replace H := H6; clear H6 o6 b6
  go_wp2_with fail
  refine (ldl_any 1 w6).mono ?_
  rintro e w8 ⟨p8, l8, rfl, o8, b8⟩
  have H8 := Lib.hid (lives H.out b8 o8.ok)
  replace l8 := Lib.hid l8
  have B2 := Lib.hid (B.out.trans (b8.mono B.out.size)); replace B := B2; clear B2
  replace H := H8; clear H8 o8 b8
  go_wp2_with fail
  refine (fn_any 4 4 w8).mono ?_
  rintro e w9 ⟨p9, l9, rfl, o9, b9⟩
  have H9 := Lib.hid (lives H.out b9 o9.ok)
  replace l9 := Lib.hid l9
  have B2 := Lib.hid (B.out.trans (b9.mono B.out.size)); replace B := B2; clear B2
  replace H := H9; clear H9 o9 b9
  go_wp2_with fail
  refine (transfer_any 7 p6 p8 p9 (by rw [l6.out, l8.out, l9.out]; decide) w9 (H.out _ (by simp)) (H.out _ (by simp)) (H.out _ (by simp))).mono ?_
  rintro e w10 ⟨p10, l10, rfl, o10, b10⟩
  rw [l6.out, l8.out, l9.out] at l10
  have H10 := Lib.hid (lives H.out b10 o10.ok)
  replace l10 := Lib.hid l10
  replace o10 := Lib.hid o10
  replace b10 := Lib.hid b10
  have Hold := H; have Bold := B
  have B2 := Lib.hid (B.out.trans (b10.out.mono B.out.size)); replace B := B2; clear B2
  replace H := H10; clear H10
  go_wp2_with fail
  refine (named_any I.sLoop w9.heap.size p10 (I.ln 1 2) [I.ln 7 1, I.ln 4 4, I.ln 15 7] l10.out w10 o10.out).mono ?_
  rintro e w11 ⟨p11, l11, rfl, o11, b11⟩
  replace H := Lib.hid (lives Hold.out (b10.out.trans b11) o11.ok); clear Hold
  replace B := Lib.hid (Bold.out.trans ((b10.out.trans b11).mono Bold.out.size)); clear Bold
  replace l11 := Lib.hid l11; clear o11 b11 o10 b10
  go_wp2_with fail
  refine (fn_any 1 3 w11).mono ?_
  rintro e w12 ⟨p12, l12, rfl, o12, b12⟩
  have H12 := Lib.hid (lives H.out b12 o12.ok)
  replace l12 := Lib.hid l12
  have B2 := Lib.hid (B.out.trans (b12.mono B.out.size)); replace B := B2; clear B2
  replace H := H12; clear H12 o12 b12
  go_wp2_with fail
  refine (ldl_any 1 w12).mono ?_
  rintro e w14 ⟨p14, l14, rfl, o14, b14⟩
  have H14 := Lib.hid (lives H.out b14 o14.ok)
  replace l14 := Lib.hid l14
  have B2 := Lib.hid (B.out.trans (b14.mono B.out.size)); replace B := B2; clear B2
  replace H := H14; clear H14 o14 b14
  go_wp2_with fail
  refine (fn_any 4 8 w14).mono ?_
  rintro e w15 ⟨p15, l15, rfl, o15, b15⟩
  have H15 := Lib.hid (lives H.out b15 o15.ok)
  replace l15 := Lib.hid l15
  have B2 := Lib.hid (B.out.trans (b15.mono B.out.size)); replace B := B2; clear B2
  replace H := H15; clear H15 o15 b15
  go_wp2_with fail
  refine (transfer_any 7 p12 p14 p15 (by rw [l12.out, l14.out, l15.out]; decide) w15 (H.out _ (by simp)) (H.out _ (by simp)) (H.out _ (by simp))).mono ?_
  rintro e w16 ⟨p16, l16, rfl, o16, b16⟩
  rw [l12.out, l14.out, l15.out] at l16
  have H16 := Lib.hid (lives H.out b16 o16.ok)
  replace l16 := Lib.hid l16
  have B2 := Lib.hid (B.out.trans (b16.mono B.out.size)); replace B := B2; clear B2
  replace H := H16; clear H16 o16 b16
  go_wp2_with fail
  refine (ldl_any 2 w16).mono ?_
  rintro e w18 ⟨p18, l18, rfl, o18, b18⟩
  have H18 := Lib.hid (lives H.out b18 o18.ok)
  replace l18 := Lib.hid l18
  have B2 := Lib.hid (B.out.trans (b18.mono B.out.size)); replace B := B2; clear B2
  replace H := H18; clear H18 o18 b18
  go_wp2_with fail
  refine (jump_any 10 I.sRun w18).mono ?_
  rintro e w19 ⟨p19, l19, rfl, o19, b19⟩
  have H19 := Lib.hid (lives H.out b19 o19.ok)
  replace l19 := Lib.hid l19
  have B2 := Lib.hid (B.out.trans (b19.mono B.out.size)); replace B := B2; clear B2
  replace H := H19; clear H19 o19 b19
  go_wp2_with fail
  refine (ldl_any 2 w19).mono ?_
  rintro e w21 ⟨p21, l21, rfl, o21, b21⟩
  have H21 := Lib.hid (lives H.out b21 o21.ok)
  replace l21 := Lib.hid l21
  have B2 := Lib.hid (B.out.trans (b21.mono B.out.size)); replace B := B2; clear B2
  replace H := H21; clear H21 o21 b21
  go_wp2_with fail
  refine (fn_any 12 1 w21).mono ?_
  rintro e w22 ⟨p22, l22, rfl, o22, b22⟩
  have H22 := Lib.hid (lives H.out b22 o22.ok)
  replace l22 := Lib.hid l22
  have B2 := Lib.hid (B.out.trans (b22.mono B.out.size)); replace B := B2; clear B2
  replace H := H22; clear H22 o22 b22
  go_wp2_with fail
  refine (jump_any 10 I.sFwd w22).mono ?_
  rintro e w23 ⟨p23, l23, rfl, o23, b23⟩
  have H23 := Lib.hid (lives H.out b23 o23.ok)
  replace l23 := Lib.hid l23
  have B2 := Lib.hid (B.out.trans (b23.mono B.out.size)); replace B := B2; clear B2
  replace H := H23; clear H23 o23 b23
  go_wp2_with fail
  refine (ldl_any 3 w23).mono ?_
  rintro e w25 ⟨p25, l25, rfl, o25, b25⟩
  have H25 := Lib.hid (lives H.out b25 o25.ok)
  replace l25 := Lib.hid l25
  have B2 := Lib.hid (B.out.trans (b25.mono B.out.size)); replace B := B2; clear B2
  replace H := H25; clear H25 o25 b25
  go_wp2_with fail
  refine (ldl_any 1 w25).mono ?_
  rintro e w27 ⟨p27, l27, rfl, o27, b27⟩
  have H27 := Lib.hid (lives H.out b27 o27.ok)
  replace l27 := Lib.hid l27
  have B2 := Lib.hid (B.out.trans (b27.mono B.out.size)); replace B := B2; clear B2
  replace H := H27; clear H27 o27 b27
  go_wp2_with fail
  refine (ldl_any 4 w27).mono ?_
  rintro e w29 ⟨p29, l29, rfl, o29, b29⟩
  have H29 := Lib.hid (lives H.out b29 o29.ok)
  replace l29 := Lib.hid l29
  have B2 := Lib.hid (B.out.trans (b29.mono B.out.size)); replace B := B2; clear B2
  replace H := H29; clear H29 o29 b29
  go_wp2_with fail
  refine (transfer_any 7 p25 p27 p29 (by rw [l25.out, l27.out, l29.out]; decide) w29 (H.out _ (by simp)) (H.out _ (by simp)) (H.out _ (by simp))).mono ?_
  rintro e w30 ⟨p30, l30, rfl, o30, b30⟩
  rw [l25.out, l27.out, l29.out] at l30
  have H30 := Lib.hid (lives H.out b30 o30.ok)
  replace l30 := Lib.hid l30
  have B2 := Lib.hid (B.out.trans (b30.mono B.out.size)); replace B := B2; clear B2
  replace H := H30; clear H30 o30 b30
  go_wp2_with fail
  refine (jump_any 0 I.sLoop w30).mono ?_
  rintro e w31 ⟨p31, l31, rfl, o31, b31⟩
  have H31 := Lib.hid (lives H.out b31 o31.ok)
  replace l31 := Lib.hid l31
  have B2 := Lib.hid (B.out.trans (b31.mono B.out.size)); replace B := B2; clear B2
  replace H := H31; clear H31 o31 b31
  go_wp2_with fail
  refine (fn_any 1 5 w31).mono ?_
  rintro e w32 ⟨p32, l32, rfl, o32, b32⟩
  have H32 := Lib.hid (lives H.out b32 o32.ok)
  replace l32 := Lib.hid l32
  have B2 := Lib.hid (B.out.trans (b32.mono B.out.size)); replace B := B2; clear B2
  replace H := H32; clear H32 o32 b32
  go_wp2_with fail
  refine (ldl_any 1 w32).mono ?_
  rintro e w34 ⟨p34, l34, rfl, o34, b34⟩
  have H34 := Lib.hid (lives H.out b34 o34.ok)
  replace l34 := Lib.hid l34
  have B2 := Lib.hid (B.out.trans (b34.mono B.out.size)); replace B := B2; clear B2
  replace H := H34; clear H34 o34 b34
  go_wp2_with fail
  refine (ldl_any 4 w34).mono ?_
  rintro e w36 ⟨p36, l36, rfl, o36, b36⟩
  have H36 := Lib.hid (lives H.out b36 o36.ok)
  replace l36 := Lib.hid l36
  have B2 := Lib.hid (B.out.trans (b36.mono B.out.size)); replace B := B2; clear B2
  replace H := H36; clear H36 o36 b36
  go_wp2_with fail
  refine (transfer_any 7 p32 p34 p36 (by rw [l32.out, l34.out, l36.out]; decide) w36 (H.out _ (by simp)) (H.out _ (by simp)) (H.out _ (by simp))).mono ?_
  rintro e w37 ⟨p37, l37, rfl, o37, b37⟩
  rw [l32.out, l34.out, l36.out] at l37
  have H37 := Lib.hid (lives H.out b37 o37.ok)
  replace l37 := Lib.hid l37
  replace o37 := Lib.hid o37
  replace b37 := Lib.hid b37
  have Hold := H; have Bold := B
  have B2 := Lib.hid (B.out.trans (b37.out.mono B.out.size)); replace B := B2; clear B2
  replace H := H37; clear H37
  go_wp2_with fail
  refine (named_any I.sFwd w36.heap.size p37 (I.ln 1 5) [I.ln 7 1, I.ln 7 4, I.ln 15 7] l37.out w37 o37.out).mono ?_
  rintro e w38 ⟨p38, l38, rfl, o38, b38⟩
  replace H := Lib.hid (lives Hold.out (b37.out.trans b38) o38.ok); clear Hold
  replace B := Lib.hid (Bold.out.trans ((b37.out.trans b38).mono Bold.out.size)); clear Bold
  replace l38 := Lib.hid l38; clear o38 b38 o37 b37
  go_wp2_with fail
  refine (fn_any 1 5 w38).mono ?_
  rintro e w39 ⟨p39, l39, rfl, o39, b39⟩
  have H39 := Lib.hid (lives H.out b39 o39.ok)
  replace l39 := Lib.hid l39
  have B2 := Lib.hid (B.out.trans (b39.mono B.out.size)); replace B := B2; clear B2
  replace H := H39; clear H39 o39 b39
  go_wp2_with fail
  refine (ldl_any 3 w39).mono ?_
  rintro e w41 ⟨p41, l41, rfl, o41, b41⟩
  have H41 := Lib.hid (lives H.out b41 o41.ok)
  replace l41 := Lib.hid l41
  have B2 := Lib.hid (B.out.trans (b41.mono B.out.size)); replace B := B2; clear B2
  replace H := H41; clear H41 o41 b41
  go_wp2_with fail
  refine (ldl_any 4 w41).mono ?_
  rintro e w43 ⟨p43, l43, rfl, o43, b43⟩
  have H43 := Lib.hid (lives H.out b43 o43.ok)
  replace l43 := Lib.hid l43
  have B2 := Lib.hid (B.out.trans (b43.mono B.out.size)); replace B := B2; clear B2
  replace H := H43; clear H43 o43 b43
  go_wp2_with fail
  refine (transfer_any 11 p39 p41 p43 (by rw [l39.out, l41.out, l43.out]; decide) w43 (H.out _ (by simp)) (H.out _ (by simp)) (H.out _ (by simp))).mono ?_
  rintro e w44 ⟨p44, l44, rfl, o44, b44⟩
  rw [l39.out, l41.out, l43.out] at l44
  have H44 := Lib.hid (lives H.out b44 o44.ok)
  replace l44 := Lib.hid l44
  have B2 := Lib.hid (B.out.trans (b44.mono B.out.size)); replace B := B2; clear B2
  replace H := H44; clear H44 o44 b44
  go_wp2_with fail
  refine (jump_any 0 I.sLoop w44).mono ?_
  rintro e w45 ⟨p45, l45, rfl, o45, b45⟩
  have H45 := Lib.hid (lives H.out b45 o45.ok)
  replace l45 := Lib.hid l45
  have B2 := Lib.hid (B.out.trans (b45.mono B.out.size)); replace B := B2; clear B2
  replace H := H45; clear H45 o45 b45
  go_wp2_with fail
  refine (ldl_any 4 w45).mono ?_
  rintro e w47 ⟨p47, l47, rfl, o47, b47⟩
  have H47 := Lib.hid (lives H.out b47 o47.ok)
  replace l47 := Lib.hid l47
  replace o47 := Lib.hid o47
  replace b47 := Lib.hid b47
  have Hold := H; have Bold := B
  have B2 := Lib.hid (B.out.trans (b47.out.mono B.out.size)); replace B := B2; clear B2
  replace H := H47; clear H47
  go_wp2_with fail
  refine (named_any I.sRun w45.heap.size p47 (I.ln 7 4) [] l47.out w47 o47.out).mono ?_
  rintro e w48 ⟨p48, l48, rfl, o48, b48⟩
  replace H := Lib.hid (lives Hold.out (b47.out.trans b48) o48.ok); clear Hold
  replace B := Lib.hid (Bold.out.trans ((b47.out.trans b48).mono Bold.out.size)); clear Bold
  replace l48 := Lib.hid l48; clear o48 b48 o47 b47
  go_wp2_with fail
  refine (ldl_any 3 w48).mono ?_
  rintro e w50 ⟨p50, l50, rfl, o50, b50⟩
  have H50 := Lib.hid (lives H.out b50 o50.ok)
  replace l50 := Lib.hid l50
  have B2 := Lib.hid (B.out.trans (b50.mono B.out.size)); replace B := B2; clear B2
  replace H := H50; clear H50 o50 b50
  go_wp2_with fail
  refine (op_any 60 w50).mono ?_
  rintro e w51 ⟨p51, l51, rfl, o51, b51⟩
  have H51 := Lib.hid (lives H.out b51 o51.ok)
  replace l51 := Lib.hid l51
  have B2 := Lib.hid (B.out.trans (b51.mono B.out.size)); replace B := B2; clear B2
  replace H := H51; clear H51 o51 b51
  go_wp2_with fail
  refine (op_any 0 w51).mono ?_
  rintro e w52 ⟨p52, l52, rfl, o52, b52⟩
  have H52 := Lib.hid (lives H.out b52 o52.ok)
  replace l52 := Lib.hid l52
  have B2 := Lib.hid (B.out.trans (b52.mono B.out.size)); replace B := B2; clear B2
  replace H := H52; clear H52 o52 b52
  go_wp2_with fail
  refine (op_any 6 w52).mono ?_
  rintro e w53 ⟨p53, l53, rfl, o53, b53⟩
  have H53 := Lib.hid (lives H.out b53 o53.ok)
  replace l53 := Lib.hid l53
  have B2 := Lib.hid (B.out.trans (b53.mono B.out.size)); replace B := B2; clear B2
  replace H := H53; clear H53 o53 b53
  go_wp2_with fail
  have hsz : (w53.alloc (.cells #[p2.val, p3.val, p4.val, p5.val, p11.val, p16.val, p18.val, p19.val, p21.val, p22.val, p23.val, p30.val, p31.val, p38.val, p44.val, p45.val, p48.val, p50.val, p51.val, p52.val, p53.val] 62)).heap.size = w53.heap.size + 1 := by simp
  have hall : lall [p2, p3, p4, p5, p11, p16, p18, p19, p21, p22, p23, p30, p31, p38, p44, p45, p48, p50, p51, p52, p53] = I.bootL := by
    simp only [lall, List.flatMap_cons, List.flatMap_nil, l2.out, l3.out, l4.out, l5.out, l11.out, l16.out, l18.out, l19.out, l21.out, l22.out, l23.out, l30.out, l31.out, l38.out, l44.out, l45.out, l48.out, l50.out, l51.out, l52.out, l53.out]
    rfl
  refine (join_any [p2, p3, p4, p5, p11, p16, p18, p19, p21, p22, p23, p30, p31, p38, p44, p45, p48, p50, p51, p52, p53] (some ⟨w53.heap.size, 0, none⟩) 21 21 rfl (by rw [hall]; decide) _ (sl_new w53 [p2.val, p3.val, p4.val, p5.val, p11.val, p16.val, p18.val, p19.val, p21.val, p22.val, p23.val, p30.val, p31.val, p38.val, p44.val, p45.val, p48.val, p50.val, p51.val, p52.val, p53.val] 62 21 1 rfl (by unfold maxLen; omega)).size ?_).mono ?_
  · intro q hq
    refine (H.out q ?_).later ((Below.refl _ _).alloc (Nat.le_refl _) _)
    simp only [List.mem_cons, List.not_mem_nil, or_false] at hq ⊢
    rcases hq with rfl | rfl | rfl | rfl | rfl | rfl | rfl | rfl | rfl | rfl | rfl | rfl | rfl | rfl | rfl | rfl | rfl | rfl | rfl | rfl | rfl <;> simp
  · rintro e w54 ⟨r, hr, rfl, ho, hb⟩
    rw [hall] at hr
    replace ho := Lib.hid ho
    replace hr := Lib.hid hr
    have hz := B.out.size
    go_wp2_with fail
    go_ret
    exact ⟨r, hr.out, rfl, ⟨ho.out.1, owns_mono ho.out.2 (by omega)⟩, (B.out.alloc hz _).trans (hb.mono (by omega))⟩
end Go.Proofs.YtcblefmjacofgaaGreatDoor
namespace Go.Proofs.YtcblefmjacofgaaGreatDoor
open Go.RowKit
set_option maxHeartbeats 2000000 in
set_option maxRecDepth 100000 in
theorem boot_any (w : World) (hT : Tabs w) :
    Calls Tryz.prog 15 #[] w fun e w' => ∃ a c, e = .returned (.slice a 41 c) ∧ w'.ownsRow w.heap.size 5 1 (.slice a 41 c) 41 (I.bootB.map bv) ∧ Below w.heap.size w w' := by
  have hL := lines_any w
  obtain ⟨q0, q1, q2⟩ := I.boot_passes
  have hA := fun (a : Option Addr) (c : Nat) (W : World) hT hs => assemble_any a c I.bootL (by decide) (List.all_eq_true.1 I.boot_ok) I.boot_labels 2 (fun k hk => by
    rcases (by omega : k = 0 ∨ k = 1) with rfl | rfl
    · exact q0
    · exact q1) q2 W hT hs
  rw [I.boot_code] at hA
  replace hA := Lib.hid hA
  replace hT := Lib.hid hT
  clear q0 q1 q2
  go_enter Tryz.func15, Tryz.ntmps15
  go_wp2_with fail
  refine hL.mono ?_
  rintro e w1 ⟨p, hp, rfl, ho, hb⟩
  obtain ⟨pa, pn, pc, pl⟩ := p
  dsimp only at hp
  subst hp
  have hn := ho.1
  have hs := ho.ok.2
  dsimp only at hn hs
  subst hn
  go_wp2_with fail
  refine (hA.out pa pc w1 (hT.out.below hb) hs).mono ?_
  rintro e w2 ⟨a1, c1, n, v2, hn, rfl, ho2, hb2⟩
  replace hn : n = 40 := hn
  subst hn
  replace ho2 := Lib.hid ho2
  have hz := hb.size
  have hz2 := hb2.size
  go_wp2_with (at_builtin; go_must (refine app_own rfl (.tmp 13) (.tmp 14) 30 rfl Tryz.elB rfl (owns_new w2 [.int .u8 40] 5 1 1 w.heap.size rfl (by unfold maxLen; omega) (by omega)) rfl ((Sl.of_owns ho2.out).later ((Below.refl _ _).alloc (Nat.le_refl _) _)) (oneCell_bytes _) (by omega) (by omega) (by simp; omega) ?_))
  intro a' c' w' r1 r2 r3
  go_wp2_with fail
  go_ret
  exact ⟨a', c', rfl, r1, ((hb.trans (hb2.mono hz)).alloc (by omega) _).trans r3⟩
end Go.Proofs.YtcblefmjacofgaaGreatDoor
namespace Go.Proofs.YtcblefmjacofgaaGreatDoor
open Go.RowKit
theorem word_walk (v : Int) : [Value.int .u8 (v % 256), .int .u8 (v / 256 % 256), .int .u8 (v / 65536 % 256), .int .u8 (v / 16777216 % 256)] = (I.word v).map bv := by
  simp only [I.word, List.map_cons, List.map_nil, bv, UInt8.toNat_ofNat']
  congr 1
  · congr 1; omega
  · congr 1
    · congr 1; omega
    · congr 1
      · congr 1; omega
      · congr 1; congr 1; omega
set_option maxHeartbeats 1000000 in
theorem lput_any (base : Nat) (sv : Value) (m : Nat) (xs : List Value) (v : Int) (h0 : -2147483648 ≤ v) (h1 : v ≤ 2147483647) (w : World) (hm : m ≤ 10000000) (hb : base ≤ w.heap.size) (hown : w.ownsRow base 5 1 sv m xs) :
    Calls Tryz.prog 83 #[sv, .int .i32 v] w fun e w' => ∃ a c, e = .returned (.slice a (m + 4) c) ∧ w'.ownsRow base 5 1 (.slice a (m + 4) c) (m + 4) (xs ++ (I.word v).map bv) ∧ OwnGrow w w' sv (.slice a (m + 4) c) := by
  obtain ⟨a, c, rfl, _⟩ := owns_shape hown
  have hw := Lib.hid (word_walk v)
  go_enter Tryz.func83, Tryz.ntmps83
  go_wp2_with fail
  refine wp_loop_rounds 5 ?_
  rw [rounds_succ]
  go_wp2_with (at_builtin; go_must (refine app_ownG rfl (.tmp 10) (.tmp 15) 30 rfl Tryz.elB rfl (hown.alloc _) rfl (sl_new w [.int .u8 (v % 256)] 5 1 1 rfl (by unfold maxLen; omega)) (by intro u hu; simp only [List.mem_singleton] at hu; subst hu; rfl) (by omega) (by omega) (by simp; omega) ?_))
  intro a0 c0 w0 o0 g0
  have G0 := (OwnGrow.refl w (.slice a m c)).trans ((OwnGrow.of_below ((Below.refl w.heap.size w).alloc (Nat.le_refl _) (.cells #[.int .u8 (v % 256)] 5)) (Nat.le_refl _) _).trans g0)
  have z0 := Nat.le_trans hb G0.by'.size
  clear g0
  go_wp2_with fail
  rw [rounds_succ]
  go_wp2_with (at_builtin; go_must (refine app_ownG rfl (.tmp 10) (.tmp 15) 30 rfl Tryz.elB rfl (o0.alloc _) rfl (sl_new w0 [.int .u8 (v / 256 % 256)] 5 1 1 rfl (by unfold maxLen; omega)) (by intro u hu; simp only [List.mem_singleton] at hu; subst hu; rfl) (by omega) (by omega) (by simp; omega) ?_))
  intro a1 c1 w1 o1 g1
  have G1 := G0.trans ((OwnGrow.of_below ((Below.refl w0.heap.size w0).alloc (Nat.le_refl _) (.cells #[.int .u8 (v / 256 % 256)] 5)) (Nat.le_refl _) _).trans g1)
  have z1 := Nat.le_trans hb G1.by'.size
  clear g1
  go_wp2_with fail
  rw [rounds_succ]
  go_wp2_with (at_builtin; go_must (refine app_ownG rfl (.tmp 10) (.tmp 15) 30 rfl Tryz.elB rfl (o1.alloc _) rfl (sl_new w1 [.int .u8 (v / 65536 % 256)] 5 1 1 rfl (by unfold maxLen; omega)) (by intro u hu; simp only [List.mem_singleton] at hu; subst hu; rfl) (by omega) (by omega) (by simp; omega) ?_))
  intro a2 c2 w2 o2 g2
  have G2 := G1.trans ((OwnGrow.of_below ((Below.refl w1.heap.size w1).alloc (Nat.le_refl _) (.cells #[.int .u8 (v / 65536 % 256)] 5)) (Nat.le_refl _) _).trans g2)
  have z2 := Nat.le_trans hb G2.by'.size
  clear g2
  go_wp2_with fail
  rw [rounds_succ]
  go_wp2_with (at_builtin; go_must (refine app_ownG rfl (.tmp 10) (.tmp 15) 30 rfl Tryz.elB rfl (o2.alloc _) rfl (sl_new w2 [.int .u8 (v / 16777216 % 256)] 5 1 1 rfl (by unfold maxLen; omega)) (by intro u hu; simp only [List.mem_singleton] at hu; subst hu; rfl) (by omega) (by omega) (by simp; omega) ?_))
  intro a3 c3 w3 o3 g3
  have G3 := G2.trans ((OwnGrow.of_below ((Below.refl w2.heap.size w2).alloc (Nat.le_refl _) (.cells #[.int .u8 (v / 16777216 % 256)] 5)) (Nat.le_refl _) _).trans g3)
  have z3 := Nat.le_trans hb G3.by'.size
  clear g3
  go_wp2_with fail
  rw [rounds_succ]
  go_wp2_with fail
  go_ret
  refine ⟨a3, c3, rfl, ?_, G3⟩
  rw [← hw.out]
  simpa using o3
structure CM where
  c : I.Cmd
  a : Option Addr
  cap : Nat
abbrev CM.n (m : CM) : Nat := m.c.b.length
abbrev CM.cells (m : CM) : List Value := [.int .u8 (m.c.k : Nat), .int .i32 m.c.ad, .int .i32 m.c.to, .slice m.a m.n m.cap]
def CM.ok (w : World) (m : CM) : Prop := m.c.Wf ∧ Sl w w.heap.size m.a m.n m.cap 1 (m.c.b.map bv)
theorem i32_and3 (n : Int) : bits .and .i32 n 3 = n % 4 := by
  have key : (BitVec.ofInt 32 n &&& BitVec.ofInt 32 3).toNat = (n % ((2 ^ 32 : Nat) : Int)).toNat % 2 ^ 2 := by
    rw [BitVec.toNat_and, BitVec.toNat_ofInt, show (BitVec.ofInt 32 3).toNat = 2 ^ 2 - 1 from rfl, Nat.and_two_pow_sub_one_eq_mod]
  show IntKind.i32.wrap ((BitVec.ofInt 32 n &&& BitVec.ofInt 32 3).toNat : Nat) = n % 4
  rw [key, IntKind.wrap_i32]
  omega
set_option maxHeartbeats 1000000 in
theorem lmay_any (c : I.Cmd) (hc : c.Wf) (a : Option Addr) (cap : Nat) (hcap : c.b.length ≤ cap) (hm : cap ≤ maxLen) (w : World) :
    Calls Tryz.prog 76 #[.agg #[.int .u8 (c.k : Nat), .int .i32 c.ad, .int .i32 c.to, .slice a c.b.length cap]] w fun e w' => e = .returned (.bool (I.mayC c)) ∧ Below w.heap.size w w' := by
  obtain ⟨k, ad, tv, b⟩ := c
  obtain ⟨k0, a0, a1, t0, t1⟩ := hc
  dsimp only at *
  unfold I.mayC
  dsimp only
  generalize b.length = n at *
  have hand := i32_and3 ad
  have hu : wrap32 (ad + 2147483648) % 4294967296 = ad + 2147483648 := by unfold wrap32; omega
  go_enter Tryz.func76, Tryz.ntmps76
  go_wp2
  all_goals (go_ret; refine ⟨?_, (Below.refl _ _).alloc (Nat.le_refl _) _⟩)
  all_goals (show Ending.returned (Value.bool _) = Ending.returned (Value.bool _); refine congrArg (fun q => Ending.returned (Value.bool q)) ?_)
  all_goals (clear hu hand; rw [Bool.eq_iff_iff] <;> simp_all <;> try omega)
end Go.Proofs.YtcblefmjacofgaaGreatDoor
namespace Go.Proofs.YtcblefmjacofgaaGreatDoor
open Go.RowKit
def cms (l : List CM) : List Value := l.flatMap CM.cells
def cmds (l : List CM) : List I.Cmd := l.map CM.c
theorem cms_length (l : List CM) : (cms l).length = l.length * 4 := by
  induction l with
  | nil => rfl
  | cons x l ih => rw [show cms (x :: l) = x.cells ++ cms l from rfl, List.length_append, ih]; simp; omega
theorem cms_get (l : List CM) : ∀ (k : Nat) (h : k < l.length) (j : Nat) (x : Value), (l[k].cells)[j]? = some x → (cms l)[k * 4 + j]? = some x := by
  induction l with
  | nil => intro k h; simp at h
  | cons a l ih =>
    intro k h j x hx
    rw [show cms (a :: l) = a.cells ++ cms l from rfl]
    have hj : j < 4 := (List.getElem?_eq_some_iff.1 hx).1
    cases k with
    | zero => rw [Nat.zero_mul, Nat.zero_add, List.getElem?_append_left (by simpa using hj)]; exact hx
    | succ k =>
      rw [List.getElem?_append_right (by simp; omega)]
      have e : (k + 1) * 4 + j - a.cells.length = k * 4 + j := by simp; omega
      rw [e]
      exact ih k (by simpa using h) j x (by simpa using hx)
structure CL (w : World) (B : Nat) (a : Option Addr) (c : Nat) (l : List CM) : Prop where
  sl : Sl w B a l.length c 4 (cms l)
  each : ∀ m ∈ l, m.c.Wf ∧ Sl w B m.a m.n m.cap 1 (m.c.b.map bv)
theorem CL.below {w w' : World} {B B' : Nat} {a : Option Addr} {c : Nat} {l : List CM} (h : CL w B a c l) (hb : Below B' w w') (hB : B ≤ B') : CL w' B a c l :=
  ⟨h.sl.below hb hB, fun m hm => ⟨(h.each m hm).1, (h.each m hm).2.below hb hB⟩⟩
theorem CL.later {w w' : World} {B : Nat} {a : Option Addr} {c : Nat} {l : List CM} (h : CL w B a c l) (hb : Below w.heap.size w w') : CL w' w'.heap.size a c l :=
  ⟨h.sl.later hb, fun m hm => ⟨(h.each m hm).1, (h.each m hm).2.later hb⟩⟩
theorem CL.get {w : World} {B : Nat} {a : Option Addr} {c : Nat} {l : List CM} (h : CL w B a c l) (k : Nat) (hk : k < l.length) :
    ∃ b o, a = some ⟨b, o, none⟩ ∧ b < B ∧ w.cell? ⟨b, o + k * 4, none⟩ = some (.int .u8 (l[k].c.k : Nat)) ∧ w.cell? ⟨b, o + k * 4 + 1, none⟩ = some (.int .i32 l[k].c.ad) ∧
      w.cell? ⟨b, o + k * 4 + 2, none⟩ = some (.int .i32 l[k].c.to) ∧ w.cell? ⟨b, o + k * 4 + 3, none⟩ = some (.slice l[k].a l[k].c.b.length l[k].cap) := by
  obtain ⟨b, o, e, hb, h0⟩ := h.sl.rd (k * 4 + 0) _ (cms_get l k hk 0 _ rfl)
  have g : ∀ j x, (l[k].cells)[j]? = some x → w.cell? ⟨b, o + (k * 4 + j), none⟩ = some x := fun j x hx => by
    obtain ⟨b', o', e', _, hc⟩ := h.sl.rd (k * 4 + j) x (cms_get l k hk j x hx)
    rw [e] at e'
    cases e'
    exact hc
  exact ⟨b, o, e, hb, g 0 _ rfl, g 1 _ rfl, g 2 _ rfl, g 3 _ rfl⟩
theorem I.all_take {l : List I.Cmd} {k : Nat} (hk : k < l.length) : (l.take (k + 1)).all I.mayC = ((l.take k).all I.mayC && I.mayC l[k]) := by
  rw [List.take_succ_eq_append_getElem hk, List.all_append, List.all_cons, List.all_nil, Bool.and_true]
theorem I.size_take {l : List I.Cmd} {k : Nat} (hk : k < l.length) : I.sizeC (l.take (k + 1)) = I.sizeC (l.take k) + (12 + l[k].b.length) := by
  rw [List.take_succ_eq_append_getElem hk, I.sizeC_append]; simp [I.sizeC]
theorem I.ones_take {l : List I.Cmd} {k : Nat} (hk : k < l.length) : (l.take (k + 1)).flatMap I.oneC = (l.take k).flatMap I.oneC ++ I.oneC l[k] := by
  rw [List.take_succ_eq_append_getElem hk, List.flatMap_append]; simp
theorem I.size_le {l : List I.Cmd} (k : Nat) : I.sizeC (l.take k) ≤ I.sizeC l := by
  conv => rhs; rw [← List.take_append_drop k l, I.sizeC_append]
  omega
theorem I.may_len {c : I.Cmd} (h : I.mayC c = true) : c.b.length ≤ 65536 := by
  unfold I.mayC at h
  split at h
  · simp at h; simp [h.2]
  · split at h
    · simp at h; exact h.2
    · split at h
      · simp at h; omega
      · cases h
theorem fam_box4 {w W : World} {t : TypeId} {v0 v1 v2 v3 : Value} (h : w.alloc (.cells #[v0, v1, v2, v3] t) = W) :
    Below w.heap.size w W ∧ w.heap.size < W.heap.size ∧ W.cell? ⟨w.heap.size, 0, none⟩ = some v0 ∧ W.cell? ⟨w.heap.size, 1, none⟩ = some v1 ∧ W.cell? ⟨w.heap.size, 2, none⟩ = some v2 ∧ W.cell? ⟨w.heap.size, 3, none⟩ = some v3 := by
  subst h
  exact ⟨(Below.refl _ _).alloc (Nat.le_refl _) _, by simp, by simp [go_sem], by simp [go_sem], by simp [go_sem], by simp [go_sem]⟩
set_option maxHeartbeats 2000000 in
set_option maxRecDepth 100000 in
theorem lPut_any (a : Option Addr) (c : Nat) (ms : List CM) (w : World) (hs : CL w w.heap.size a c ms) :
    Calls Tryz.prog 62 #[.slice a ms.length c] w fun e w' => ∃ a' n c', n = (I.putC (cmds ms)).1.length ∧ e = .returned (.tuple #[.slice a' n c', .int .i64 (I.putC (cmds ms)).2]) ∧
      w'.ownsRow w.heap.size 5 1 (.slice a' n c') n ((I.putC (cmds ms)).1.map bv) ∧ Below w.heap.size w w' := by
  have hml : (cmds ms).length = ms.length := by simp [cmds]
  have hcl : ∀ k (h : k < ms.length) h', (cmds ms)[k]'(h') = ms[k].c := fun k h h' => by simp [cmds]
  have hcap := hs.sl.cap
  have hmx := hs.sl.max
  unfold maxLen at hmx
  replace hcl := Lib.hid hcl
  go_enter Tryz.func62, Tryz.ntmps62
  go_wp2_with fail
  go_loopg [4, 6, 13] ms.length (fun g s4 _ s13 wr => ∃ (k z : Nat), k ≤ ms.length ∧ g = ms.length - k ∧ s13 = .int .i64 (k : Nat) ∧ s4 = .int .i64 (z : Nat) ∧ Hid (z = min (I.sizeC ((cmds ms).take k)) 1048577) ∧ Hid (((cmds ms).take k).all I.mayC = true) ∧ Below w.heap.size w wr)
  case atStart => exact ⟨0, 0, Nat.zero_le _, rfl, rfl, rfl, rfl, rfl, Below.refl _ _⟩
  case round =>
    obtain ⟨k, z, hk, rfl, rfl, rfl, hz, hall, hb⟩ := hrel
    by_cases hlt : k < ms.length
    · obtain ⟨bb, o, rfl, hbb, c0, c1, c2, c3⟩ := (hs.below hb (Nat.le_refl _)).get k hlt
      obtain ⟨hwf, hsl⟩ := hs.each ms[k] (List.getElem_mem hlt)
      have hck := hcl.out k hlt (by omega)
      have hmay := fun W => lmay_any ms[k].c hwf ms[k].a ms[k].cap hsl.cap hsl.max W
      have hsz := I.size_take (l := cmds ms) (k := k) (by omega)
      have hat := I.all_take (l := cmds ms) (k := k) (by omega)
      have hml2 := @I.may_len ms[k].c
      rw [hck] at hsz hat
      replace hmay := Lib.hid hmay
      generalize ms[k] = M at *
      obtain ⟨⟨ck, cad, cto, cb⟩, ma, mcap⟩ := M
      dsimp only [CM.n] at *
      generalize hI : I.mayC ⟨ck, cad, cto, cb⟩ = q at *
      have hwz := hb.size
      cases q with
      | false =>
        have hfin : Hid ((cmds ms).all I.mayC = false) := by
          show _ = _
          rw [← List.take_append_drop (k + 1) (cmds ms), List.all_append, hat, Bool.and_false, Bool.false_and]
        clear hat hsz hml2 hI hck
        go_wp2_with fail
        refine (hmay.out _).mono ?_
        rintro e w1 ⟨rfl, hb1⟩
        have hb2 : Below w.heap.size w w1 := (hb.alloc hwz _).trans (hb1.mono (by simp; omega))
        clear hb1 c0 c1 c2 c3
        go_wp2_with fail
        go_ret2
        have e1 : I.putC (cmds ms) = ([], 2) := by unfold I.putC; rw [hfin.out]; rfl
        rw [e1]
        exact ⟨none, 0, 0, rfl, rfl, nil_owns _ _, hb2⟩
      | true =>
        have hl := hml2 rfl
        have hcbc : cb.length ≤ mcap := hsl.cap
        have hz2 : (z : Int) ≤ 1048577 := by have := hz.out; omega
        generalize hcbl : cb.length = n at *
        replace hsz := Lib.hid hsz
        replace hat := Lib.hid hat
        clear hml2 hI hck
        go_wp2_with fail
        refine (hmay.out _).mono ?_
        rintro e w1 ⟨rfl, hb1⟩
        have hb2 : Below w.heap.size w w1 := (hb.alloc hwz _).trans (hb1.mono (by simp; omega))
        have c3 := (hb1.cell (p := ⟨wr.heap.size, 3, none⟩) (by simp)).trans (show _ = some (.slice ma n mcap) by simp [go_sem])
        clear hb1 c0 c1 c2
        go_wp2_with fail
        go_roundg (ms.length - (k + 1))
        case rel => exact ⟨k + 1, min (z + 12 + n) 1048577, by omega, rfl, by go_num, by congr 1; omega, by show _ = _; rw [hsz.out]; have := hz.out; omega, by show _ = _; rw [hat.out, hall.out]; rfl, hb2⟩
        case measure => omega
    · obtain rfl : k = ms.length := by omega
      rw [← hml, List.take_length] at hz hall
      have hz := hz.out
      have hwz := hb.size
      by_cases hbig : I.sizeC (cmds ms) ≤ 1048576
      · have hz2 : (z : Int) ≤ 1048576 := by omega
        have e1 : I.putC (cmds ms) = ((cmds ms).flatMap I.oneC, 0) := by unfold I.putC; rw [if_pos hall.out, if_pos hbig]
        replace e1 := Lib.hid e1
        clear hz
        go_wp2_with fail
        generalize hgw : wr = w0 at *
        clear hgw
        go_loopg [7, 9, 10, 32] ms.length (fun g s7 _ _ s32 wr => ∃ (k : Nat) (va : Option Addr) (vn vc : Nat), k ≤ ms.length ∧ g = ms.length - k ∧ s32 = .int .i64 (k : Nat) ∧ s7 = .slice va vn vc ∧ Hid (vn = I.sizeC ((cmds ms).take k)) ∧
          wr.ownsRow w.heap.size 5 1 (.slice va vn vc) vn ((((cmds ms).take k).flatMap I.oneC).map bv) ∧ Below w.heap.size w wr)
        case atStart => exact ⟨0, none, 0, 0, Nat.zero_le _, rfl, rfl, rfl, rfl, nil_owns _ _, hb⟩
        case round =>
          clear hb hwz
          obtain ⟨k, va, vn, vc, hk, rfl, rfl, rfl, hvn, hown, hb⟩ := hrel
          have hwz := hb.size
          by_cases hlt : k < ms.length
          · obtain ⟨bb, o, rfl, hbb, c0, c1, c2, c3⟩ := (hs.below hb (Nat.le_refl _)).get k hlt
            obtain ⟨hwf, hsl⟩ := hs.each ms[k] (List.getElem_mem hlt)
            have hck := hcl.out k hlt (by omega)
            have hsz := I.size_take (l := cmds ms) (k := k) (by omega)
            have hot := I.ones_take (l := cmds ms) (k := k) (by omega)
            have hle := I.size_le (l := cmds ms) (k + 1)
            have hmay : I.mayC ms[k].c = true := by
              rw [← hck]
              exact List.all_eq_true.1 hall.out _ (List.getElem_mem _)
            rw [hck] at hsz hot
            have hvb : vn + 12 + ms[k].c.b.length ≤ 1048576 := by have := hvn.out; omega
            have hslb := hsl.below hb (Nat.le_refl _)
            generalize ms[k] = M at *
            obtain ⟨⟨ck, cad, cto, cb⟩, ma, mcap⟩ := M
            obtain ⟨f0, f1, f2, f3, f4⟩ := hwf
            dsimp only [CM.n] at *
            have hcbc : cb.length ≤ mcap := hsl.cap
            by_cases hk0 : ck = 0
            · subst hk0
              have hn0 : cb.length = 0 := by unfold I.mayC at hmay; simp at hmay; simp [hmay.2]
              clear hmay
              obtain rfl : cb = [] := List.eq_nil_of_length_eq_zero hn0
              have g0 : ((0 : Int) == 0) = true := rfl
              go_wp2_with fail
              generalize hW : wr.alloc _ = W
              obtain ⟨hbW, hlW, z0, z1, z2, z3⟩ := fam_box4 hW
              clear hW c0 c1 c2 c3
              go_wp2_with fail
              have hdb : w.heap.size ≤ W.drew.heap.size := by show _ ≤ W.heap.size; omega
              have hne : (Value.slice va vn vc).ownBlock ≠ some wr.heap.size := fun e => by
                have := (hown.lt _ e).2
                omega
              have hownW := (owns_later hown hbW (Nat.le_refl _)).drew
              have hwk : IntKind.i32.wrap (0) = 0 := by rw [IntKind.wrap_i32]; omega
              go_region_held3 (fun w' => w'.cell? ⟨wr.heap.size, 0, none⟩ = some (.int .u8 (0)) ∧ w'.cell? ⟨wr.heap.size, 1, none⟩ = some (.int .i32 cad)) (go_keep)
                (first
                  | (go_at_call 83; (with_reducible refine (lput_any w.heap.size (.slice va vn vc) vn _ (0) (by omega) (by omega) _ (by omega) hdb hownW).mono ?_); rintro e w1 ⟨a1, c1, rfl, hown1, g1⟩; have hk1 := (g1.cell (a := ⟨wr.heap.size, 0, none⟩) hlW hne).trans z0; have hk2 := (g1.cell (a := ⟨wr.heap.size, 1, none⟩) hlW hne).trans z1; have hn1 := g1.ne hlW hne; have hz1 := g1.by'.size)
                  | (go_at_call 83; (with_reducible refine (lput_any w.heap.size (.slice a1 (vn + 4) c1) (vn + 4) _ cad f1 f2 _ (by omega) (Nat.le_trans hdb hz1) hown1).mono ?_); rintro e w2 ⟨a2, c2, rfl, hown2, g2⟩; have hk3 := (g2.cell (a := ⟨wr.heap.size, 0, none⟩) (Nat.lt_of_lt_of_le hlW hz1) hn1).trans hk1; have hk4 := (g2.cell (a := ⟨wr.heap.size, 1, none⟩) (Nat.lt_of_lt_of_le hlW hz1) hn1).trans hk2; have hz2 := g2.by'.size)
                  | (go_at_call 83; (with_reducible refine (lput_any w.heap.size (.slice a2 (vn + 4 + 4) c2) (vn + 4 + 4) _ (cto) (by omega) (by omega) _ (by omega) (Nat.le_trans hdb (Nat.le_trans hz1 hz2)) hown2).mono ?_); rintro e w3 ⟨a3, c3, rfl, hown3, g3⟩; have hn2 := g2.ne (Nat.lt_of_lt_of_le hlW hz1) hn1; have hk5 := (g3.cell (a := ⟨wr.heap.size, 0, none⟩) (Nat.lt_of_lt_of_le hlW (Nat.le_trans hz1 hz2)) hn2).trans hk3; have hk6 := (g3.cell (a := ⟨wr.heap.size, 1, none⟩) (Nat.lt_of_lt_of_le hlW (Nat.le_trans hz1 hz2)) hn2).trans hk4))
              have hbW3 : Below w.heap.size w w3 := hb.trans ((hbW.mono hwz).trans ((Below.refl _ _).drew.trans ((g1.below hdb (own_base hownW)).trans ((g2.below (Nat.le_trans hdb hz1) (own_base hown1)).trans (g3.below (Nat.le_trans hdb (Nat.le_trans hz1 hz2)) (own_base hown2))))))
              have hk7 : w3.cell? ⟨wr.heap.size, 3, none⟩ = some (.slice ma 0 mcap) := (g3.cell (a := ⟨wr.heap.size, 3, none⟩) (Nat.lt_of_lt_of_le hlW (Nat.le_trans hz1 hz2)) hn2).trans ((g2.cell (a := ⟨wr.heap.size, 3, none⟩) (Nat.lt_of_lt_of_le hlW hz1) hn1).trans ((g1.cell (a := ⟨wr.heap.size, 3, none⟩) hlW hne).trans z3))
              have hsl3 := hsl.below hbW3 (Nat.le_refl _)
              clear hk1 hk2 hk3 hk4 hk5 hk6 z0 z1 z2 z3 hownW hown1 hown2 g1 g2 g3 hwk hslb
              go_wp2_with (at_builtin; go_must (refine app_own rfl (.tmp 55) (.tmp 57) 30 rfl Tryz.elB rfl hown3 rfl hsl3 (oneCell_bytes _) (by omega) (by omega) hbW3.size ?_))
              intro a4 c4 w4 hown4 _ hb4
              go_wp2_with fail
              go_roundg (ms.length - (k + 1))
              case rel =>
                refine ⟨k + 1, a4, vn + 4 + 4 + 4 + 0, c4, by omega, rfl, by go_num, rfl, by show _ = _; rw [hsz, ← hvn.out]; omega, ?_, hbW3.trans hb4⟩
                rw [hot]
                have e2 : I.oneC ⟨0, cad, cto, []⟩ = I.word (0) ++ I.word cad ++ I.word (cto) ++ [] := by simp [I.oneC]
                rw [e2]
                simp only [List.map_append, List.append_assoc] at hown4 ⊢
                exact hown4
              case measure => omega
            · have hk2 : ck = 1 ∨ ck = 2 := by
                unfold I.mayC at hmay
                simp only [hk0, if_false] at hmay
                split at hmay
                · exact .inl ‹_›
                · split at hmay
                  · exact .inr ‹_›
                  · cases hmay
              clear hmay
              have g0 : (((ck : Nat) : Int) == 0) = false := by simp [hk0]
              have w1' : IntKind.i32.wrap ((ck : Nat) : Int) = ck := by rw [IntKind.wrap_i32]; omega
              have w2' : IntKind.i32.wrap ((cb.length : Nat) : Int) = (cb.length : Nat) := by rw [IntKind.wrap_i32]; omega
              go_wp2_with fail
              generalize hW : wr.alloc _ = W
              obtain ⟨hbW, hlW, z0, z1, z2, z3⟩ := fam_box4 hW
              clear hW c0 c1 c2 c3
              have hdb : w.heap.size ≤ W.drew.heap.size := by show _ ≤ W.heap.size; omega
              have hne : (Value.slice va vn vc).ownBlock ≠ some wr.heap.size := fun e => by
                have := (hown.lt _ e).2
                omega
              have hownW := (owns_later hown hbW (Nat.le_refl _)).drew
              have hwk : IntKind.i32.wrap ((ck : Int)) = (ck : Int) := by rw [IntKind.wrap_i32]; omega
              go_region_held3 (fun w' => w'.cell? ⟨wr.heap.size, 0, none⟩ = some (.int .u8 ((ck : Int))) ∧ w'.cell? ⟨wr.heap.size, 1, none⟩ = some (.int .i32 cad)) (go_keep)
                (first
                  | (go_at_call 83; (with_reducible refine (lput_any w.heap.size (.slice va vn vc) vn _ ((ck : Int)) (by omega) (by omega) _ (by omega) hdb hownW).mono ?_); rintro e w1 ⟨a1, c1, rfl, hown1, g1⟩; have hk1 := (g1.cell (a := ⟨wr.heap.size, 0, none⟩) hlW hne).trans z0; have hk2 := (g1.cell (a := ⟨wr.heap.size, 1, none⟩) hlW hne).trans z1; have hn1 := g1.ne hlW hne; have hz1 := g1.by'.size)
                  | (go_at_call 83; (with_reducible refine (lput_any w.heap.size (.slice a1 (vn + 4) c1) (vn + 4) _ cad f1 f2 _ (by omega) (Nat.le_trans hdb hz1) hown1).mono ?_); rintro e w2 ⟨a2, c2, rfl, hown2, g2⟩; have hk3 := (g2.cell (a := ⟨wr.heap.size, 0, none⟩) (Nat.lt_of_lt_of_le hlW hz1) hn1).trans hk1; have hk4 := (g2.cell (a := ⟨wr.heap.size, 1, none⟩) (Nat.lt_of_lt_of_le hlW hz1) hn1).trans hk2; have hz2 := g2.by'.size)
                  | (go_at_call 83; (with_reducible refine (lput_any w.heap.size (.slice a2 (vn + 4 + 4) c2) (vn + 4 + 4) _ ((cb.length : Int)) (by omega) (by omega) _ (by omega) (Nat.le_trans hdb (Nat.le_trans hz1 hz2)) hown2).mono ?_); rintro e w3 ⟨a3, c3, rfl, hown3, g3⟩; have hn2 := g2.ne (Nat.lt_of_lt_of_le hlW hz1) hn1; have hk5 := (g3.cell (a := ⟨wr.heap.size, 0, none⟩) (Nat.lt_of_lt_of_le hlW (Nat.le_trans hz1 hz2)) hn2).trans hk3; have hk6 := (g3.cell (a := ⟨wr.heap.size, 1, none⟩) (Nat.lt_of_lt_of_le hlW (Nat.le_trans hz1 hz2)) hn2).trans hk4))
              have hbW3 : Below w.heap.size w w3 := hb.trans ((hbW.mono hwz).trans ((Below.refl _ _).drew.trans ((g1.below hdb (own_base hownW)).trans ((g2.below (Nat.le_trans hdb hz1) (own_base hown1)).trans (g3.below (Nat.le_trans hdb (Nat.le_trans hz1 hz2)) (own_base hown2))))))
              have hk7 : w3.cell? ⟨wr.heap.size, 3, none⟩ = some (.slice ma cb.length mcap) := (g3.cell (a := ⟨wr.heap.size, 3, none⟩) (Nat.lt_of_lt_of_le hlW (Nat.le_trans hz1 hz2)) hn2).trans ((g2.cell (a := ⟨wr.heap.size, 3, none⟩) (Nat.lt_of_lt_of_le hlW hz1) hn1).trans ((g1.cell (a := ⟨wr.heap.size, 3, none⟩) hlW hne).trans z3))
              have hsl3 := hsl.below hbW3 (Nat.le_refl _)
              clear hk1 hk2 hk3 hk4 hk5 hk6 z0 z1 z2 z3 hownW hown1 hown2 g1 g2 g3 hwk hslb
              go_wp2_with (at_builtin; go_must (refine app_own rfl (.tmp 55) (.tmp 57) 30 rfl Tryz.elB rfl hown3 rfl hsl3 (oneCell_bytes _) (by omega) (by omega) hbW3.size ?_))
              intro a4 c4 w4 hown4 _ hb4
              go_wp2_with fail
              go_roundg (ms.length - (k + 1))
              case rel =>
                refine ⟨k + 1, a4, vn + 4 + 4 + 4 + cb.length, c4, by omega, rfl, by go_num, rfl, by show _ = _; rw [hsz, ← hvn.out]; omega, ?_, hbW3.trans hb4⟩
                rw [hot]
                have e2 : I.oneC ⟨ck, cad, cto, cb⟩ = I.word ((ck : Int)) ++ I.word cad ++ I.word ((cb.length : Int)) ++ cb := by simp [I.oneC, hk0]
                rw [e2]
                simp only [List.map_append, List.append_assoc] at hown4 ⊢
                exact hown4
              case measure => omega
          · obtain rfl : k = ms.length := by omega
            have e1' := e1.out
            rw [← hml, List.take_length] at hown hvn
            clear e1
            replace hown := Lib.hid hown
            go_wp2_with fail
            go_ret2
            rw [e1']
            exact ⟨va, vn, vc, by rw [I.ones_length]; exact hvn.out, rfl, hown.out, hb⟩
      · have hz2 : ¬ (z : Int) ≤ 1048576 := by omega
        have hz3 : decide ((1048576 : Int) < z) = true := by simp; omega
        have e1 : I.putC (cmds ms) = ([], 3) := by unfold I.putC; rw [if_pos hall.out, if_neg hbig]
        replace e1 := Lib.hid e1
        clear hz
        go_wp2_with fail
        go_ret2
        rw [e1.out]
        first | exact ⟨none, 0, 0, rfl, rfl, nil_owns _ _, hb⟩ | exact ⟨none, 0, rfl, nil_owns _ _, hb⟩
end Go.Proofs.YtcblefmjacofgaaGreatDoor
namespace Go.Proofs.YtcblefmjacofgaaGreatDoor
open Go.RowKit
theorem ret_int {k : IntKind} {a b : Int} (h : a = b) : Ending.returned (.int k a) = .returned (.int k b) := by rw [h]
theorem num_walk (x0 x1 x2 x3 : UInt8) : bits BinOp.or IntKind.u32 (bits BinOp.or IntKind.u32 (bits BinOp.or IntKind.u32 (x0.toNat : Int) ((x1.toNat * 256 : Nat) : Int)) ((x2.toNat * 65536 : Nat) : Int)) ((x3.toNat * 16777216 : Nat) : Int)
    = ((x0.toNat + 256 * x1.toNat + 65536 * x2.toNat + 16777216 * x3.toNat : Nat) : Int) := by
  have h0 := x0.toNat_lt; have h1 := x1.toNat_lt; have h2 := x2.toNat_lt; have h3 := x3.toNat_lt
  rw [u32_or_nat _ _ (by omega) (by omega), Nat.or_comm, nat_join 8 _ _ (by omega) (by omega)]
  rw [u32_or_nat _ _ (by omega) (by omega), Nat.or_comm, nat_join 16 _ _ (by omega) (by omega)]
  rw [u32_or_nat _ _ (by omega) (by omega), Nat.or_comm, nat_join 24 _ _ (by omega) (by omega)]
  congr 1
  omega
theorem grown_setCell (w : World) (a : Addr) (u : Value) : w.grownBy (w.setCell a u) (some a.block) :=
  ⟨rfl, rfl, rfl, by simp [World.setCell], fun k _ hk => heap_setCell_other w a k u (fun e => hk (by rw [e]))⟩
set_option maxHeartbeats 1000000 in
theorem word_any (l : List UInt8) (c p bx pt : Nat) (a : Option Addr) (hp : p + 4 ≤ l.length) (hl : l.length ≤ 1000000000000) (w : World) (hs : Sl w w.heap.size a l.length c 1 (l.map bv))
    (c0 : w.cell? ⟨bx, 0, none⟩ = some (.slice a l.length c)) (c1 : w.cell? ⟨pt, 0, none⟩ = some (.int .i64 (p : Nat))) (f1 : w.frozen? ⟨pt, 0, none⟩ = false) :
    Calls Tryz.prog 75 #[.pointer (some ⟨bx, 0, none⟩), .pointer (some ⟨pt, 0, none⟩)] w fun e w' =>
      e = .returned (.int .u32 (I.num4 (l.drop p) : Nat)) ∧ w.grownBy w' (some pt) ∧ w'.cell? ⟨pt, 0, none⟩ = some (.int .i64 ((p + 4 : Nat) : Int)) ∧ w'.frozen? ⟨pt, 0, none⟩ = false := by
  obtain ⟨b, o, rfl, hb, d0⟩ := hs.rd.byte p (by omega)
  have dd : ∀ k (h : p + k < l.length), w.cell? ⟨b, o + (p + k), none⟩ = some (bv (l[p + k]'h)) := fun k h => by
    obtain ⟨b', o', e, _, hc⟩ := hs.rd.byte (p + k) h
    cases e
    exact hc
  have d1 := dd 1 (by omega)
  have d2 := dd 2 (by omega)
  have d3 := dd 3 (by omega)
  have hnum : I.num4 (l.drop p) = l[p].toNat + 256 * l[p + 1].toNat + 65536 * l[p + 2].toNat + 16777216 * l[p + 3].toNat := by
    unfold I.num4
    simp only [List.getD_eq_getElem?_getD, List.getElem?_drop, Nat.add_zero, List.getElem?_eq_getElem (show p < l.length by omega), List.getElem?_eq_getElem (show p + 1 < l.length by omega), List.getElem?_eq_getElem (show p + 2 < l.length by omega), List.getElem?_eq_getElem (show p + 3 < l.length by omega), Option.getD_some]
  have HN := Lib.hid hnum
  clear dd hnum hs
  have b0 : (p : Int) < l.length := by omega
  have b1 : (p : Int) + 1 < l.length := by omega
  have b2 : (p : Int) + 2 < l.length := by omega
  have b3 : (p : Int) + 3 < l.length := by omega
  have s1 : IntKind.i64.wrap ((p : Int) + 1) = (p : Int) + 1 := IntWalk.i64_in _ (by omega)
  have s2 : IntKind.i64.wrap ((p : Int) + 2) = (p : Int) + 2 := IntWalk.i64_in _ (by omega)
  have s3 : IntKind.i64.wrap ((p : Int) + 3) = (p : Int) + 3 := IntWalk.i64_in _ (by omega)
  have q1 : (0 : Int) ≤ (p : Int) + 1 := by omega
  have q2 : (0 : Int) ≤ (p : Int) + 2 := by omega
  have q3 : (0 : Int) ≤ (p : Int) + 3 := by omega
  have r1 : ((p : Int) + 1).toNat = p + 1 := by omega
  have r2 : ((p : Int) + 2).toNat = p + 2 := by omega
  have r3 : ((p : Int) + 3).toNat = p + 3 := by omega
  generalize l[p] = x0 at *
  generalize l[p + 1] = x1 at *
  generalize l[p + 2] = x2 at *
  generalize l[p + 3] = x3 at *
  have h0 := x0.toNat_lt; have h1 := x1.toNat_lt; have h2 := x2.toNat_lt; have h3 := x3.toNat_lt
  simp only [bv] at d0 d1 d2 d3
  go_enter Tryz.func75, Tryz.ntmps75
  go_wp2_with fail
  go_quiet (fail)
  clear s1 s2 s3 r1 r2 r3
  go_wp2_with fail
  go_ret
  refine ⟨ret_int (by rw [HN.out, ← num_walk]; simp), ?_, ?_, ?_⟩
  · exact (show w.grownBy (w.drewN nq) (some pt) from ⟨rfl, rfl, rfl, Nat.le_refl _, fun _ _ _ => rfl⟩).trans (grown_setCell _ ⟨pt, 0, none⟩ _)
  · rw [World.cell?_setCell_same _ _ _ (show (w.drewN nq).cell? ⟨pt, 0, none⟩ = some (.int .i64 (p : Nat)) from c1)]
    congr 2
  · rw [World.frozen?_setCell]; exact f1
end Go.Proofs.YtcblefmjacofgaaGreatDoor
