/- Parts: I4, I5, I6, I7, I8. -/
import Derived.Test.YtcblefmjacofgaaGreatDoorB1
import Derived.Test.YtcblefmjacofgaaGreatDoorA5
import Derived.Laws.IdiomStrings
import Derived.Maps.OwnSet
import Derived.Maps.OwnOps
import Derived.Maps.Views
import Derived.Deep.LoopGhost
import Derived.Test.YtcblefmjacofgaaGreatDoorA1
set_option linter.all false
set_option linter.unusedVariables false
set_option linter.unusedSimpArgs false
namespace Go.Proofs.YtcblefmjacofgaaGreatDoor
open Go.RowKit
abbrev lnv (x : I.Line) : List Value := [.string ⟨x.lab.toArray⟩, .int .u8 (x.fn : Nat), .int .i32 x.arg, .string ⟨x.tgt.toArray⟩, .string ⟨x.frm.toArray⟩]
def lns (l : List I.Line) : List Value := l.flatMap lnv
theorem Tryz.elL : Elem Tryz.prog 62 88 5 56 := elem_mk (z := .agg #[.string ByteArray.empty, .int .u8 0, .int .i32 0, .string ByteArray.empty, .string ByteArray.empty]) (by kernel_rfl) Tryz.underlying62 rfl (by decide)
set_option maxRecDepth 100000 in
theorem or32 (c : Nat) (h : 97 ≤ c) (h2 : c ≤ 122) : c ||| 32 = c := by
  have : ∀ c : Fin 256, 97 ≤ c.val → c.val ≤ 122 → c.val ||| 32 = c.val := by decide
  exact this ⟨c, by omega⟩ h h2
theorem conv_string (s : List UInt8) (hs : s.length ≤ 1000000) (w : World) : ∃ cap W1, (convert 9 30 (.string ⟨s.toArray⟩)).run Tryz.prog w = .ok (.slice (some ⟨w.heap.size, 0, none⟩) s.length cap) W1 ∧
    Sl W1 W1.heap.size (some ⟨w.heap.size, 0, none⟩) s.length cap 1 (s.map bv) ∧ Below w.heap.size w W1 := by
  have h := run_bytes_of_string (P := Tryz.prog) w 9 30 5 ⟨s.toArray⟩ Tryz.underlying9 Tryz.underlying30 Tryz.underlying5
  have hsz : (⟨s.toArray⟩ : ByteArray).size = s.length := by simp [ByteArray.size]
  rw [hsz] at h
  have hG := grownCap_ge w s.length 0 5
  have hM := grownCap_le_maxLen w s.length 0 5 (by unfold maxLen; omega)
  refine ⟨_, _, h, ⟨by simp, ?_, hG, hM, fun h => by cases h⟩, ((Below.refl _ _).drew).alloc (Nat.le_refl _) _⟩
  intro j x hx
  refine ⟨w.heap.size, 0, rfl, by simp, ?_⟩
  have hj : j < s.length := by
    have := (List.getElem?_eq_some_iff.1 hx).1
    simpa using this
  rw [Nat.zero_add]
  have := World.cell?_alloc_mark w.drew (bytesRow ⟨s.toArray⟩ (grownCap w s.length 0 5)) 5 ((bytesRow ⟨s.toArray⟩ (grownCap w s.length 0 5)).size, (bytesRow ⟨s.toArray⟩ (grownCap w s.length 0 5)).size + 1) j
  refine this.trans ?_
  rw [bytesRow_at _ _ _ (by simpa using hj), ← hx, List.getElem?_map, List.getElem?_eq_getElem hj]
  simp
set_option maxHeartbeats 1000000 in
set_option maxRecDepth 100000 in
theorem label_yes (s : List UInt8) (h : I.lower s = true) (w : World) :
    Calls Tryz.prog 96 #[.string ⟨s.toArray⟩] w fun e w' => e = .returned (.bool true) ∧ Below w.heap.size w w' := by
  simp only [I.lower, Bool.and_eq_true, List.all_eq_true, decide_eq_true_eq, Bool.not_eq_true'] at h
  obtain ⟨⟨hall, hne⟩, hlen⟩ := h
  obtain ⟨cap, W1, hconv, hS, hb1⟩ := conv_string s (by omega) w
  have hne1 : ¬ s.length = 0 := by
    intro h0
    rw [List.eq_nil_of_length_eq_zero h0] at hne
    cases hne
  have hn0 : (s.toArray == #[]) = false := by
    cases s with
    | nil => exact absurd rfl hne1
    | cons a l => rfl
  have hsz : (⟨s.toArray⟩ : ByteArray).size = s.length := by simp [ByteArray.size]
  have hl32 : ((s.length : Nat) : Int) ≤ 32 := by omega
  have hnb : ¬ (⟨s.toArray⟩ : ByteArray) = ⟨#[]⟩ := by
    intro h
    have := congrArg ByteArray.size h
    rw [hsz] at this
    exact hne1 this
  have hs0 : ¬ s = [] := fun h => hne1 (by rw [h]; rfl)
  have hs1 : (s == []) = false := by simp [hs0]
  replace hall := Lib.hid hall
  go_enter Tryz.func96, Tryz.ntmps96
  go_wp2_with fail
  go_loop [3, 4, 5, 9] (fun _ _ _ i => ∃ k : Nat, k ≤ s.length ∧ i = .int .i64 k) (fun _ _ _ i => s.length - (intOf i).toNat)
  case atStart => exact ⟨0, Nat.zero_le _, rfl⟩
  case round =>
    obtain ⟨k, hk, rfl⟩ := hrel
    by_cases hlt : k < s.length
    · obtain ⟨b, o, e, hb, hc⟩ := hS.rd.byte k hlt
      cases e
      rw [Nat.zero_add] at hc
      obtain ⟨h1, h2⟩ := hall.out s[k] (List.getElem_mem hlt)
      have hor : bits .or .u8 (s[k].toNat : Int) 32 = (s[k].toNat : Int) := by
        have := u8_or_nat s[k].toNat 32 (by omega) (by omega)
        rw [or32 _ h1 h2] at this
        exact this
      have z1 : (97 : Int) ≤ (s[k].toNat : Int) := by omega
      have z2 : (s[k].toNat : Int) ≤ 122 := by omega
      simp only [bv] at hc
      generalize s[k].toNat = c at *
      go_wp2_with fail
      go_round
      case rel => exact ⟨k + 1, by omega, by go_num⟩
      case measure => simp [intOf]; omega
    · obtain rfl : k = s.length := by omega
      go_wp2_with fail
      go_ret
      exact ⟨rfl, hb1⟩
theorem box5_cells {w w1 : World} {v0 v1 v2 v3 v4 : Value} {t : TypeId} (h : Below (w.alloc (.cells #[v0, v1, v2, v3, v4] t)).heap.size (w.alloc (.cells #[v0, v1, v2, v3, v4] t)) w1) :
    w1.cell? ⟨w.heap.size, 0, none⟩ = some v0 ∧ w1.cell? ⟨w.heap.size, 1, none⟩ = some v1 ∧ w1.cell? ⟨w.heap.size, 2, none⟩ = some v2 ∧ w1.cell? ⟨w.heap.size, 3, none⟩ = some v3 ∧ w1.cell? ⟨w.heap.size, 4, none⟩ = some v4 := by
  have hl : w.heap.size < (w.alloc (.cells #[v0, v1, v2, v3, v4] t)).heap.size := by simp
  refine ⟨(h.cell (p := ⟨w.heap.size, 0, none⟩) hl).trans ?_, (h.cell (p := ⟨w.heap.size, 1, none⟩) hl).trans ?_, (h.cell (p := ⟨w.heap.size, 2, none⟩) hl).trans ?_, (h.cell (p := ⟨w.heap.size, 3, none⟩) hl).trans ?_, (h.cell (p := ⟨w.heap.size, 4, none⟩) hl).trans ?_⟩ <;> simp [go_sem]
theorem okLine_spec {x : I.Line} (h : I.okLine x = true) : x.fn ≤ 15 ∧ x.fn ≠ 2 ∧ x.fn ≠ 6 ∧ (-2147483648 ≤ x.arg ∧ x.arg ≤ 2147483647) ∧ (x.lab = [] ∨ I.lower x.lab = true) ∧ x.frm = [] ∧
    ((x.tgt = [] ∧ I.mayI x.fn x.arg = true) ∨ (x.tgt ≠ [] ∧ I.lower x.tgt = true ∧ x.arg = 0 ∧ x.fn < 15)) := by
  simp only [I.okLine, Bool.and_eq_true, Bool.or_eq_true, decide_eq_true_eq, List.isEmpty_iff, bne_iff_ne, ne_eq] at h
  obtain ⟨⟨⟨⟨⟨⟨⟨h1, h2⟩, h3⟩, h4⟩, h5⟩, h6⟩, h7⟩, h8⟩ := h
  refine ⟨h1, h7, h8, ⟨h2, h3⟩, h4, h5, ?_⟩
  split at h6
  · rename_i ht
    exact .inl ⟨ht, h6⟩
  · rename_i ht
    simp only [Bool.and_eq_true, beq_iff_eq, decide_eq_true_eq] at h6
    exact .inr ⟨ht, h6.1.1, h6.1.2, h6.2⟩
theorem lower_ne {s : List UInt8} (h : I.lower s = true) : ¬ s = [] := by rintro rfl; exact absurd h (by decide)
set_option maxHeartbeats 1000000 in
set_option maxRecDepth 100000 in
theorem avalid_yes (x : I.Line) (h : I.okLine x = true) (w : World) (hT : Tabs w) :
    Calls Tryz.prog 91 #[.agg #[.string ⟨x.lab.toArray⟩, .int .u8 (x.fn : Nat), .int .i32 x.arg, .string ⟨x.tgt.toArray⟩, .string ⟨x.frm.toArray⟩]] w fun e w' => e = .returned (.bool true) ∧ Below w.heap.size w w' := by
  obtain ⟨h1, h2, h3, h4, hlab, hfrm, htgt⟩ := okLine_spec h
  obtain ⟨lab, fn, arg, tgt, frm⟩ := x
  dsimp only at *
  subst hfrm
  have g2 : (((fn : Nat) : Int) != 2) = true := by simp; omega
  have g6 : (((fn : Nat) : Int) != 6) = true := by simp; omega
  clear h
  have hL := Lib.hid (fun s hs W => label_yes s hs W)
  have hI := Lib.hid (fun W hW => imay_any fn arg (by omega) W hW)
  rcases hlab with rfl | hlab
  · rcases htgt with ⟨rfl, hmay⟩ | ⟨htn, hlt, rfl, h15⟩
    · rw [hmay] at hI
      clear hmay
      go_enter Tryz.func91, Tryz.ntmps91
      go_wp2_with fail
      refine (hI.out _ (hT.below ((Below.refl _ _).alloc (Nat.le_refl _) _))).mono ?_
      rintro e w1 ⟨rfl, hb1⟩
      go_wp2_with fail
      go_ret
      exact ⟨rfl, ((Below.refl _ _).alloc (Nat.le_refl _) _).trans (hb1.mono (by simp))⟩
    · have g15 : decide ((fn : Int) < 15) = true := by simp; omega
      have htn1 : (tgt == []) = false := by simp [htn]
      go_enter Tryz.func91, Tryz.ntmps91
      go_wp2_with fail
      refine (hL.out tgt hlt _).mono ?_
      rintro e w1 ⟨rfl, hb1⟩
      obtain ⟨c0, c1, c2, c3, c4⟩ := box5_cells (w := w) hb1
      have hb2 : Below w.heap.size w w1 := ((Below.refl _ _).alloc (Nat.le_refl _) _).trans (hb1.mono (by simp))
      clear hb1
      go_wp2_with fail
      go_ret
      exact ⟨rfl, hb2⟩
  · have hln := lower_ne hlab
    have hln1 : (lab == []) = false := by simp [hln]
    rcases htgt with ⟨rfl, hmay⟩ | ⟨htn, hlt, rfl, h15⟩
    · rw [hmay] at hI
      clear hmay
      go_enter Tryz.func91, Tryz.ntmps91
      go_wp2_with fail
      refine (hL.out lab hlab _).mono ?_
      rintro e w1 ⟨rfl, hb1⟩
      obtain ⟨c0, c1, c2, c3, c4⟩ := box5_cells (w := w) hb1
      have hb2 : Below w.heap.size w w1 := ((Below.refl _ _).alloc (Nat.le_refl _) _).trans (hb1.mono (by simp))
      clear hb1
      go_wp2_with fail
      refine (hI.out _ (hT.below hb2)).mono ?_
      rintro e w2 ⟨rfl, hb3⟩
      go_wp2_with fail
      go_ret
      exact ⟨rfl, hb2.trans (hb3.mono hb2.size)⟩
    · have g15 : decide ((fn : Int) < 15) = true := by simp; omega
      have htn1 : (tgt == []) = false := by simp [htn]
      go_enter Tryz.func91, Tryz.ntmps91
      go_wp2_with fail
      refine (hL.out lab hlab _).mono ?_
      rintro e w0 ⟨rfl, hb0⟩
      obtain ⟨d0, d1, d2, d3, d4⟩ := box5_cells (w := w) hb0
      have hb00 : Below w.heap.size w w0 := ((Below.refl _ _).alloc (Nat.le_refl _) _).trans (hb0.mono (by simp))
      have hzz : w.heap.size < w0.heap.size := by have := hb0.size; simp at this; omega
      clear hb0
      go_wp2_with fail
      refine (hL.out tgt hlt _).mono ?_
      rintro e w1 ⟨rfl, hb1⟩
      have c0 := (hb1.cell (p := ⟨w.heap.size, 0, none⟩) hzz).trans d0
      have c1 := (hb1.cell (p := ⟨w.heap.size, 1, none⟩) hzz).trans d1
      have c2 := (hb1.cell (p := ⟨w.heap.size, 2, none⟩) hzz).trans d2
      have c3 := (hb1.cell (p := ⟨w.heap.size, 3, none⟩) hzz).trans d3
      have c4 := (hb1.cell (p := ⟨w.heap.size, 4, none⟩) hzz).trans d4
      have hb2 : Below w.heap.size w w1 := hb00.trans (hb1.mono hb00.size)
      clear hb1 d0 d1 d2 d3 d4
      go_wp2_with fail
      go_ret
      exact ⟨rfl, hb2⟩
end Go.Proofs.YtcblefmjacofgaaGreatDoor
namespace Go.Proofs.YtcblefmjacofgaaGreatDoor
open Go.RowKit
open Go.Maps (has IsMap)
theorem lns_length (l : List I.Line) : (lns l).length = l.length * 5 := by
  induction l with
  | nil => rfl
  | cons x l ih => rw [show lns (x :: l) = lnv x ++ lns l from rfl, List.length_append, ih]; simp; omega
theorem lns_get (l : List I.Line) : ∀ (k : Nat) (h : k < l.length) (j : Nat) (x : Value), (lnv l[k])[j]? = some x → (lns l)[k * 5 + j]? = some x := by
  induction l with
  | nil => intro k h; simp at h
  | cons a l ih =>
    intro k h j x hx
    rw [show lns (a :: l) = lnv a ++ lns l from rfl]
    have hj : j < 5 := (List.getElem?_eq_some_iff.1 hx).1
    cases k with
    | zero => rw [Nat.zero_mul, Nat.zero_add, List.getElem?_append_left (by simpa using hj)]; exact hx
    | succ k =>
      rw [List.getElem?_append_right (by simp; omega)]
      have e : (k + 1) * 5 + j - (lnv a).length = k * 5 + j := by simp; omega
      rw [e]
      exact ih k (by simpa using h) j x (by simpa using hx)
theorem Sl.line {w : World} {B : Nat} {a : Option Addr} {n c : Nat} {l : List I.Line} (h : Sl w B a n c 5 (lns l)) (k : Nat) (hk : k < l.length) :
    ∃ b o, a = some ⟨b, o, none⟩ ∧ b < B ∧ w.cell? ⟨b, o + k * 5, none⟩ = some (.string ⟨l[k].lab.toArray⟩) ∧ w.cell? ⟨b, o + k * 5 + 1, none⟩ = some (.int .u8 (l[k].fn : Nat)) ∧
      w.cell? ⟨b, o + k * 5 + 2, none⟩ = some (.int .i32 l[k].arg) ∧ w.cell? ⟨b, o + k * 5 + 3, none⟩ = some (.string ⟨l[k].tgt.toArray⟩) ∧ w.cell? ⟨b, o + k * 5 + 4, none⟩ = some (.string ⟨l[k].frm.toArray⟩) := by
  obtain ⟨b, o, e, hb, h0⟩ := h.rd (k * 5 + 0) _ (lns_get l k hk 0 _ rfl)
  have g : ∀ j x, (lnv l[k])[j]? = some x → w.cell? ⟨b, o + (k * 5 + j), none⟩ = some x := fun j x hx => by
    obtain ⟨b', o', e', _, hc⟩ := h.rd (k * 5 + j) x (lns_get l k hk j x hx)
    rw [e] at e'
    cases e'
    exact hc
  exact ⟨b, o, e, hb, g 0 _ rfl, g 1 _ rfl, g 2 _ rfl, g 3 _ rfl, g 4 _ rfl⟩
def MapL (W : World) (b : Nat) (l : List I.Line) (k : Nat) : Prop :=
  ∃ (D : DataW Unit) (n : Nat), n ≤ k ∧ W.ownsMap Tryz.prog 9 (plainElem Tryz.prog 3) b n D ∧ IsMap D ∧ (∀ s, has D (.string s) = (decide (s ≠ []) && (l.take k).any fun x => x.lab == s)) ∧
    ∀ s, has D (.string s) = true → D.atKey (.string s) (.lit (.int .i64 0)) = .lit (.int .i64 (I.place l s : Nat))
theorem MapL.later {W W' : World} {b : Nat} {l : List I.Line} {k : Nat} (h : MapL W b l k) (hb : Below W.heap.size W W') : MapL W' b l k := by
  obtain ⟨D, n, h1, h2, h3⟩ := h
  exact ⟨D, n, h1, h2.kept (row := none) ⟨hb.os, hb.tape, hb.output, hb.size, fun k hk _ => hb.block k hk⟩ (by simp), h3⟩
theorem MapL.empty {W : World} {b : Nat} {l : List I.Line} (h : W.ownsMap Tryz.prog 9 (plainElem (H := Unit) Tryz.prog 3) b 0 (.map [])) : MapL W b l 0 :=
  ⟨_, 0, Nat.le_refl _, h, ⟨[], rfl⟩, fun s => by simp [has], fun s hs => by simp [has] at hs⟩
theorem MapL.skip {W : World} {b : Nat} {l : List I.Line} {k : Nat} (h : MapL W b l k) (hk : k < l.length) (he : l[k].lab = []) : MapL W b l (k + 1) := by
  obtain ⟨D, n, h1, h2, h3, h4, h5⟩ := h
  refine ⟨D, n, by omega, h2, h3, fun s => ?_, h5⟩
  rw [h4, List.take_succ_eq_append_getElem hk, List.any_append, List.any_cons, he]
  by_cases hs : s = []
  · simp [hs]
  · have : (([] : List UInt8) == s) = false := by simpa using hs
    simp [this]
theorem MapL.step {W : World} {b : Nat} {l : List I.Line} {k n : Nat} {D : DataW Unit} (hn : n ≤ k) (h3 : IsMap D) (h4 : ∀ s, has D (.string s) = (decide (s ≠ []) && (l.take k).any fun x => x.lab == s))
    (h5 : ∀ s, has D (.string s) = true → D.atKey (.string s) (.lit (.int .i64 0)) = .lit (.int .i64 (I.place l s : Nat))) (hk : k < l.length) (he : l[k].lab ≠ []) (hp : I.place l l[k].lab = k)
    (h2 : W.ownsMap Tryz.prog 9 (plainElem Tryz.prog 3) b (n + 1) (D.put (.string l[k].lab) (.lit (.int .i64 (k : Nat))))) : MapL W b l (k + 1) := by
  refine ⟨_, n + 1, by omega, h2, h3.put _ _, fun s => ?_, fun s hs => ?_⟩
  · rw [List.take_succ_eq_append_getElem hk, List.any_append, List.any_cons]
    by_cases hs : s = l[k].lab
    · subst hs
      rw [Maps.has_put_same h3 (k := .string _) trivial]
      simp [he]
    · rw [Maps.has_put_other (fun h => hs (by injection h)), h4]
      have : (l[k].lab == s) = false := by simpa using fun h => hs h.symm
      simp [this]
  · by_cases hq : s = l[k].lab
    · subst hq
      rw [Maps.atKey_put_same h3 (k := .string _) trivial, hp]
    · rw [Maps.atKey_put_other (fun h => hq (by injection h))]
      rw [Maps.has_put_other (fun h => hq (by injection h))] at hs
      exact h5 s hs
theorem labels_place {l : List I.Line} (h : I.labelsOk l = true) (k : Nat) (hk : k < l.length) (he : l[k].lab ≠ []) : I.place l l[k].lab = k := by
  simp only [I.labelsOk, List.all_eq_true, List.mem_range, Bool.and_eq_true, Bool.or_eq_true, beq_iff_eq, decide_eq_true_eq, List.isEmpty_iff] at h
  have := (h k hk).1
  rw [show l.getD k default = l[k] by simp [List.getD, hk]] at this
  rcases this with h | h
  · exact absurd h he
  · exact h
theorem labels_target {l : List I.Line} (h : I.labelsOk l = true) (k : Nat) (hk : k < l.length) (he : l[k].tgt ≠ []) : I.place l l[k].tgt < l.length := by
  simp only [I.labelsOk, List.all_eq_true, List.mem_range, Bool.and_eq_true, Bool.or_eq_true, beq_iff_eq, decide_eq_true_eq, List.isEmpty_iff] at h
  have := (h k hk).2
  rw [show l.getD k default = l[k] by simp [List.getD, hk]] at this
  rcases this with h | h
  · exact absurd h he
  · exact h
theorem place_has {l : List I.Line} {s : List UInt8} : I.place l s < l.length ↔ (l.any fun x => x.lab == s) = true := by
  rw [I.place, List.findIdx_lt_length, List.any_eq_true]
theorem take_any {l : List I.Line} (h : I.labelsOk l = true) (k : Nat) (hk : k < l.length) (he : l[k].lab ≠ []) : ((l.take k).any fun x => x.lab == l[k].lab) = false := by
  rw [Bool.eq_false_iff]
  intro h2
  obtain ⟨x, hx, hxe⟩ := List.any_eq_true.1 h2
  obtain ⟨j, hj, rfl⟩ := List.getElem_of_mem hx
  have hp := labels_place h k hk he
  have hjk : j < k := by simp at hj; omega
  have : ¬ j < I.place l l[k].lab := fun hh => by
    have := List.not_of_lt_findIdx hh
    simp at hxe
    simp [hxe] at this
  omega
set_option maxHeartbeats 1000000 in
set_option maxRecDepth 100000 in
theorem check_yes (a : Option Addr) (c : Nat) (l : List I.Line) (hl : l.length ≤ 1000) (hok : ∀ x ∈ l, I.okLine x = true) (hlab : I.labelsOk l = true) (w : World) (hT : Tabs w) (hs : Sl w w.heap.size a l.length c 5 (lns l)) :
    Calls Tryz.prog 79 #[.slice a l.length c] w fun e w' => ∃ b, e = .returned (.tuple #[.map (some b), .int .i64 0]) ∧ MapL w' b l l.length ∧ w.heap.size ≤ b ∧ Below w.heap.size w w' := by
  have hok := Lib.hid hok
  have hlab := Lib.hid hlab
  have hmm := @run_makeMap Tryz.prog
  have hKS : ∀ s : List UInt8, s.length ≤ 1000000 → keyOf Tryz.prog 9 (.string ⟨s.toArray⟩) = some (.string s) := fun s hs => WideMaps.keyOf_string_mk Tryz.underlying9 (by simp [ByteArray.size, maxLen]; omega)
  have hKS := Lib.hid hKS
  have hSK : Maps.Keyed Tryz.prog 9 := Maps.string_keyed Tryz.underlying9
  have hSK := Lib.hid hSK
  go_enter Tryz.func79, Tryz.ntmps79
  go_wp2_with fail
  go_loopw [5, 19] (fun _ i wr => ∃ k, k ≤ l.length ∧ i = .int .i64 (k : Nat) ∧ Below w.heap.size w wr) (fun _ i _ => l.length - (intOf i).toNat)
  case atStart => exact ⟨0, Nat.zero_le _, rfl, Below.refl _ _⟩
  case round =>
    obtain ⟨k, hk, rfl, hb⟩ := hrel
    have hz := hb.size
    by_cases hlt : k < l.length
    · obtain ⟨bb, o, rfl, hbb, c0, c1, c2, c3, c4⟩ := (hs.below hb (Nat.le_refl _)).line k hlt
      have hv := Lib.hid (fun W hW => avalid_yes l[k] (hok.out _ (List.getElem_mem hlt)) W hW)
      go_wp2_with fail
      refine (hv.out _ (hT.below (hb.alloc hz _))).mono ?_
      rintro e w1 ⟨rfl, hb1⟩
      have hb2 : Below w.heap.size w w1 := (hb.alloc hz _).trans (hb1.mono (by simp; omega))
      go_wp2_with fail
      go_roundw
      case rel => exact ⟨k + 1, by omega, by go_num, hb2⟩
      case measure => simp [intOf]; omega
    · obtain rfl : k = l.length := by omega
      go_wp2_with fail
      generalize hg : wr = wa at *
      clear hg
      go_loopw [7, 8, 9, 10, 30] (fun _ _ _ _ i wr2 => ∃ k, k ≤ l.length ∧ i = .int .i64 (k : Nat) ∧ MapL wr2 wa.heap.size l k ∧ Below w.heap.size w wr2) (fun _ _ _ _ i _ => l.length - (intOf i).toNat)
      case atStart => exact ⟨0, Nat.zero_le _, rfl, .empty (World.ownsMap_made _ _ _ _), hb.alloc hz _⟩
      case round =>
        obtain ⟨k, hk, rfl, ⟨D, n, hn, hown, hisD, hhas, hat⟩, hb2⟩ := hrel
        have hz2 := hb2.size
        by_cases hlt : k < l.length
        · obtain ⟨bb, o, rfl, hbb, c0, c1, c2, c3, c4⟩ := (hs.below hb2 (Nat.le_refl _)).line k hlt
          obtain ⟨x1, x2, x3, x4, xlab, xfrm, xtgt⟩ := okLine_spec (hok.out _ (List.getElem_mem hlt))
          have hsk := fun W h => MapL.skip (W := W) (b := wa.heap.size) h hlt
          have hst := fun W h => MapL.step (W := W) (b := wa.heap.size) hn hisD hhas hat hlt h
          have hpl := labels_place hlab.out k hlt
          have hfr := hhas l[k].lab
          have hta := take_any hlab.out k hlt
          replace hfr := Lib.hid hfr
          replace hta := Lib.hid hta
          replace hpl := Lib.hid hpl
          replace hsk := Lib.hid hsk
          replace hst := Lib.hid hst
          generalize hxx : l[k] = x at c0 c1 c2 c3 c4 xlab x1 x2 x3 x4 xfrm xtgt hfr hta hpl hsk hst
          clear hxx hlab hok
          replace hhas := Lib.hid hhas
          replace hat := Lib.hid hat
          have hwk : (Lit.int .i64 (k : Int)).wf = true := by simp [Lit.wf, show IntKind.i64.min = -9223372036854775808 from rfl, show IntKind.i64.max = 9223372036854775807 from rfl]; omega
          obtain ⟨lab, fn, arg, tgt, frm⟩ := x
          dsimp only at *
          subst xfrm
          rcases xlab with rfl | hlow
          · have hkey := hKS.out [] (by decide)
            go_wp2_with (first | (at_lookup; refine wpList_lookup_own_ok_int _ rfl _ _ 84 rfl 9 3 .i64 hSK.out Tryz.underlying84 Tryz.underlying3 (Tryz.zeroValue3 _) wa.heap.size n D rfl (hown.alloc _) _ _ rfl hkey ?_; intro c hat1 hwc) | fail)
            go_roundw
            case rel => exact ⟨k + 1, by omega, by go_num, hsk.out _ ⟨D, n, hn, hown.alloc _, hisD, hhas.out, hat.out⟩ rfl, hb2.alloc hz2 _⟩
            case measure => simp [intOf]; omega
          · have hkey := hKS.out lab (by simp only [I.lower, Bool.and_eq_true, decide_eq_true_eq] at hlow; omega)
            have hne := lower_ne hlow
            have hne1 : (lab == []) = false := by simp [hne]
            have hh := hfr.out
            rw [hta.out hne, Bool.and_false] at hh
            go_wp2_with (first
              | (at_lookup; refine wpList_lookup_own_ok_int _ rfl _ _ 84 rfl 9 3 .i64 hSK.out Tryz.underlying84 Tryz.underlying3 (Tryz.zeroValue3 _) wa.heap.size n D rfl (hown.alloc _) _ _ rfl hkey ?_; intro c hat1 hwc)
              | (at_mapUpdate; refine wpList_mapUpdate_own _ rfl _ _ _ 84 rfl 9 3 hSK.out Tryz.underlying84 _ wa.heap.size n D rfl (hown.alloc _) (by unfold maxLen; omega) _ _ _ rfl rfl hkey _ [] (plainElem_int Tryz.underlying3 hwk) ?_; intro w1 hown1 hgrow1)
              | fail)
            go_roundw
            case rel => exact ⟨k + 1, by omega, by go_num, hst.out _ hne (hpl.out hne) hown1, (hb2.alloc hz2 _).grown hgrow1 (by simp; omega) (fun j hj => by cases hj; exact hz)⟩
            case measure => simp [intOf]; omega
        · obtain rfl : k = l.length := by omega
          go_wp2_with fail
          go_loopw [12, 13, 14, 15, 16, 53] (fun _ _ _ _ _ i wr3 => ∃ k, k ≤ l.length ∧ i = .int .i64 (k : Nat) ∧ MapL wr3 wa.heap.size l l.length ∧ Below w.heap.size w wr3) (fun _ _ _ _ _ i _ => l.length - (intOf i).toNat)
          case atStart => exact ⟨0, Nat.zero_le _, rfl, ⟨D, n, hn, hown, hisD, hhas, hat⟩, hb2⟩
          case round =>
            clear hhas hat hisD hown hn
            obtain ⟨k, hk, rfl, ⟨D, n, hn, hown, hisD, hhas, hat⟩, hb3⟩ := hrel
            have hz3 := hb3.size
            by_cases hlt : k < l.length
            · obtain ⟨bb, o, rfl, hbb, c0, c1, c2, c3, c4⟩ := (hs.below hb3 (Nat.le_refl _)).line k hlt
              obtain ⟨x1, x2, x3, x4, xlab, xfrm, xtgt⟩ := okLine_spec (hok.out _ (List.getElem_mem hlt))
              have hpl := labels_target hlab.out k hlt
              have hfr := hhas l[k].tgt
              rw [List.take_length] at hfr
              rw [place_has] at hpl
              replace hhas := Lib.hid hhas
              replace hat := Lib.hid hat
              replace hfr := Lib.hid hfr
              replace hpl := Lib.hid hpl
              generalize hxx : l[k] = x at c0 c1 c2 c3 c4 xlab x1 x2 x3 x4 xfrm xtgt hfr hpl
              clear hxx hlab hok
              obtain ⟨lab, fn, arg, tgt, frm⟩ := x
              dsimp only at *
              subst xfrm
              have hkey0 := hKS.out [] (by decide)
              have tok1 : True := trivial
              have tok2 : True := trivial
              rcases xtgt with ⟨rfl, hmay⟩ | ⟨htn, hlow, rfl, h15⟩
              · clear hmay
                go_wp2_with (first
                  | (at_lookup; have _t := tok1; refine wpList_lookup_own_ok_int _ rfl _ _ 84 rfl 9 3 .i64 hSK.out Tryz.underlying84 Tryz.underlying3 (Tryz.zeroValue3 _) wa.heap.size n D rfl (hown.alloc _) _ _ rfl hkey0 ?_; intro c1 hat1 hwc1; clear tok1)
                  | (at_lookup; have _t := tok2; refine wpList_lookup_own_ok_int _ rfl _ _ 84 rfl 9 3 .i64 hSK.out Tryz.underlying84 Tryz.underlying3 (Tryz.zeroValue3 _) wa.heap.size n D rfl (hown.alloc _) _ _ rfl hkey0 ?_; intro c2 hat2 hwc2; clear tok2)
                  | fail)
                go_roundw
                case rel => exact ⟨k + 1, by omega, by go_num, ⟨D, n, hn, hown.alloc _, hisD, hhas.out, hat.out⟩, hb3.alloc hz3 _⟩
                case measure => simp [intOf]; omega
              · have hkey := hKS.out tgt (by simp only [I.lower, Bool.and_eq_true, decide_eq_true_eq] at hlow; omega)
                have htn1 : (tgt == []) = false := by simp [htn]
                have hh := hfr.out
                rw [hpl.out htn, Bool.and_true, decide_eq_true htn] at hh
                go_wp2_with (first
                  | (at_lookup; have _t := tok1; refine wpList_lookup_own_ok_int _ rfl _ _ 84 rfl 9 3 .i64 hSK.out Tryz.underlying84 Tryz.underlying3 (Tryz.zeroValue3 _) wa.heap.size n D rfl (hown.alloc _) _ _ rfl hkey ?_; intro c1 hat1 hwc1; clear tok1)
                  | (at_lookup; have _t := tok2; refine wpList_lookup_own_ok_int _ rfl _ _ 84 rfl 9 3 .i64 hSK.out Tryz.underlying84 Tryz.underlying3 (Tryz.zeroValue3 _) wa.heap.size n D rfl (hown.alloc _) _ _ rfl hkey0 ?_; intro c2 hat2 hwc2; clear tok2)
                  | fail)
                go_roundw
                case rel => exact ⟨k + 1, by omega, by go_num, ⟨D, n, hn, hown.alloc _, hisD, hhas.out, hat.out⟩, hb3.alloc hz3 _⟩
                case measure => simp [intOf]; omega
            · obtain rfl : k = l.length := by omega
              go_wp2_with fail
              go_ret2
              exact ⟨_, rfl, ⟨D, n, hn, hown, hisD, hhas, hat⟩, hz, hb3⟩
end Go.Proofs.YtcblefmjacofgaaGreatDoor
namespace Go.Proofs.YtcblefmjacofgaaGreatDoor
open Go.RowKit
open Go.Maps (has IsMap)
abbrev iv (n : Int) : Value := .int .i64 n
theorem Sl.num {w : World} {B : Nat} {a : Option Addr} {n c : Nat} {l : List Int} (h : Sl w B a n c 1 (l.map iv)) (k : Nat) (hk : k < l.length) :
    ∃ b o, a = some ⟨b, o, none⟩ ∧ b < B ∧ w.cell? ⟨b, o + k, none⟩ = some (.int .i64 l[k]) :=
  h.rd k (.int .i64 l[k]) (by rw [List.getElem?_map, List.getElem?_eq_getElem hk]; rfl)
theorem lab_of {D : DataW Unit} {l : List I.Line} {s : List UInt8} {c : Int} (hhas : ∀ s, has D (.string s) = (decide (s ≠ []) && (l.take l.length).any fun x => x.lab == s))
    (hat : ∀ s, has D (.string s) = true → D.atKey (.string s) (.lit (.int .i64 0)) = .lit (.int .i64 (I.place l s : Nat))) (hs : s ≠ []) (hp : I.place l s < l.length)
    (h : D.atKey (.string s) (.lit (.int .i64 0)) = .lit (.int .i64 c)) : c = (I.place l s : Nat) := by
  have hh := hhas s
  rw [List.take_length, place_has.1 hp, Bool.and_true, decide_eq_true hs] at hh
  have := h.symm.trans (hat s hh)
  injection this with h1
  injection h1
set_option maxHeartbeats 1000000 in
set_option maxRecDepth 100000 in
theorem operand_any (l : List I.Line) (x : I.Line) (hx : I.okLine x = true) (hl : l.length ≤ 1000) (hpl : x.tgt ≠ [] → I.place l x.tgt < l.length) (i : Nat) (hi : i < l.length) (b : Nat) (a : Option Addr) (c : Nat) (ns : List Int)
    (hlen : ns.length = l.length + 1) (hbd : ∀ v ∈ ns, 0 ≤ v ∧ v ≤ 1000000) (w : World) (hM : MapL w b l l.length) (hs : Sl w w.heap.size a ns.length c 1 (ns.map iv)) :
    Calls Tryz.prog 51 #[.agg #[.string ⟨x.lab.toArray⟩, .int .u8 (x.fn : Nat), .int .i32 x.arg, .string ⟨x.tgt.toArray⟩, .string ⟨x.frm.toArray⟩], .int .i64 (i : Nat), .map (some b), .slice a ns.length c] w
      fun e w' => e = .returned (.int .i32 (I.operand l ns i x)) ∧ Below w.heap.size w w' := by
  obtain ⟨h1, h2, h3, h4, hlab, hfrm, htgt⟩ := okLine_spec hx
  obtain ⟨D, n, hn, hown, hisD, hhas, hat⟩ := hM
  have hl0 := @lab_of D l x.tgt
  replace hl0 := Lib.hid (fun hs hp c h => @hl0 c hhas hat hs hp h)
  unfold I.operand
  obtain ⟨lab, fn, arg, tgt, frm⟩ := x
  dsimp only at *
  subst hfrm
  clear hx hhas hat hisD
  rcases htgt with ⟨rfl, hmay⟩ | ⟨htn, hlow, rfl, h15⟩
  · clear hmay hpl hs
    simp only [List.isEmpty_nil, if_true]
    go_enter Tryz.func51, Tryz.ntmps51
    go_wp2_with fail
    go_ret
    exact ⟨rfl, (Below.refl _ _).alloc (Nat.le_refl _) _⟩
  · have htn1 : (tgt == []) = false := by simp [htn]
    have hp := hpl htn
    replace hl0 := Lib.hid (hl0.out htn hp)
    have hlen1 : tgt.length ≤ 1000000 := by simp only [I.lower, Bool.and_eq_true, decide_eq_true_eq] at hlow; omega
    have hkey : keyOf Tryz.prog 9 (.string ⟨tgt.toArray⟩) = some (.string tgt) := WideMaps.keyOf_string_mk Tryz.underlying9 (by simp [ByteArray.size, maxLen]; omega)
    have hSK : Maps.Keyed Tryz.prog 9 := Maps.string_keyed Tryz.underlying9
    obtain ⟨b1, o1, rfl, hb1, c1⟩ := hs.num (i + 1) (by omega)
    obtain ⟨b2, o2, e2, hb2, c2⟩ := hs.num (I.place l tgt) (by omega)
    cases e2
    have e1 : ns.getD (i + 1) 0 = ns[i + 1]'(by omega) := by simp [List.getD, hlen, hi]
    have e2 : ns.getD (I.place l tgt) 0 = ns[I.place l tgt]'(by omega) := by simp [List.getD, List.getElem?_eq_getElem (show I.place l tgt < ns.length by omega)]
    have v1 := hbd _ (List.getElem_mem (show i + 1 < ns.length by omega))
    have v2 := hbd _ (List.getElem_mem (show I.place l tgt < ns.length by omega))
    rw [if_neg (by simpa using htn), e1, e2]
    clear hbd hlow hlab e1 e2
    generalize ns[i + 1]'_ = n1 at *
    generalize ns[I.place l tgt]'_ = n2 at *
    generalize I.place l tgt = p at *
    have hpi : (p : Int) < (ns.length : Int) := by omega
    have hii : (i : Int) + 1 < (ns.length : Int) := by omega
    have hw : IntKind.i32.wrap (n2 - n1) = n2 - n1 := by rw [IntKind.wrap_i32]; omega
    go_enter Tryz.func51, Tryz.ntmps51
    go_wp2_with (first
      | (at_lookup; refine wpList_lookup_own_int _ rfl _ _ 84 rfl 9 3 .i64 hSK Tryz.underlying84 Tryz.underlying3 (Tryz.zeroValue3 _) b n D rfl (hown.alloc _) _ _ rfl hkey ?_; intro c hat1 hwc; obtain rfl := hl0.out c hat1)
      | fail)
    go_ret
    refine ⟨?_, (Below.refl _ _).alloc (Nat.le_refl _) _⟩
    first | rfl | (simp only [hw]) | (congr 2; exact hw)
end Go.Proofs.YtcblefmjacofgaaGreatDoor
namespace Go.Proofs.YtcblefmjacofgaaGreatDoor
open Go.RowKit
structure Ints (w : World) (b : Nat) (l : List Int) : Prop where
  cell : ∀ j (h : j < l.length), w.cell? ⟨b, j, none⟩ = some (.int .i64 l[j])
  free : ∀ j, w.frozen? ⟨b, j, none⟩ = false
theorem Ints.later {w w' : World} {b : Nat} {l : List Int} (h : Ints w b l) {B : Nat} (hb : Below B w w') (hB : b < B) : Ints w' b l :=
  ⟨fun j hj => (hb.cell (p := ⟨b, j, none⟩) hB).trans (h.cell j hj), fun j => (hb.frozen (p := ⟨b, j, none⟩) hB).trans (h.free j)⟩
theorem Ints.set {w : World} {b : Nat} {l : List Int} (h : Ints w b l) (i : Nat) (hi : i < l.length) (v : Int) (l' : List Int) (hl : l'.length = l.length) (hv : ∀ h, l'[i]'h = v) (ho : ∀ j h h', j ≠ i → l'[j]'h = l[j]'(h')) :
    Ints (w.setCell ⟨b, i, none⟩ (.int .i64 v)) b l' := by
  refine ⟨fun j hj => ?_, fun j => by rw [World.frozen?_setCell]; exact h.free j⟩
  by_cases hji : j = i
  · subst hji
    rw [World.cell?_setCell_same _ _ _ (h.cell j hi), hv]
  · rw [World.cell?_setCell_other _ _ _ _ (fun e => hji (by injection e with _ e2; exact e2.symm)), h.cell j (by omega), ho j hj (by omega) hji]
theorem Ints.other {w : World} {b : Nat} {l : List Int} (h : Ints w b l) {b' i : Nat} (v : Value) (hb : b ≠ b') : Ints (w.setCell ⟨b', i, none⟩ v) b l :=
  ⟨fun j hj => by rw [World.cell?_setCell_other _ _ _ _ (fun e => hb (by injection e with e1; exact e1.symm))]; exact h.cell j hj, fun j => by rw [World.frozen?_setCell]; exact h.free j⟩
namespace I
theorem lens1_length (l : List Line) (at' lens : List Int) : (lens1 l at' lens).length = l.length := by simp [lens1]
theorem ats_length : ∀ (l : List Int) (a : Int), (ats a l).length = l.length + 1
  | [], a => rfl
  | n :: r, a => by simp [ats, ats_length r]
theorem passes_length (l : List Line) : ∀ k, (passes l k).1.length = l.length ∧ (passes l k).2.length = l.length + 1
  | 0 => by simp [passes]
  | k + 1 => by
    have := lens1_length l (passes l k).2 (passes l k).1
    exact ⟨this, by rw [passes, pass, ats_length, this]⟩
theorem passes_bd (l : List Line) : ∀ k, ∀ v ∈ (passes l k).1, 0 ≤ v ∧ v ≤ 9
  | 0 => by
    intro v hv
    have := List.eq_of_mem_replicate hv
    omega
  | k + 1 => by
    intro v hv
    obtain ⟨i, hi, rfl⟩ := List.mem_map.1 hv
    have hi := List.mem_range.1 hi
    have h1 := putB_le (l.getD i default).fn (operand l (passes l k).2 i (l.getD i default))
    have hlen := (passes_length l k).1
    have h2 : 0 ≤ (passes l k).1.getD i 0 ∧ (passes l k).1.getD i 0 ≤ 9 := by
      rw [List.getD_eq_getElem?_getD, List.getElem?_eq_getElem (by omega)]
      exact passes_bd l k _ (List.getElem_mem _)
    omega
theorem ats_bd : ∀ (l : List Int) (a : Int), 0 ≤ a → (∀ v ∈ l, 0 ≤ v ∧ v ≤ 9) → ∀ v ∈ ats a l, 0 ≤ v ∧ v ≤ a + 9 * l.length
  | [], a, ha, _, v, hv => by
    have : v = a := by simpa [ats] using hv
    subst this
    simp; omega
  | n :: r, a, ha, h, v, hv => by
    have hn := h n (by simp)
    rcases List.mem_cons.1 (show v ∈ a :: ats (a + n) r from hv) with rfl | hv
    · simp; omega
    · have := ats_bd r (a + n) (by omega) (fun v hv => h v (List.mem_cons_of_mem _ hv)) v hv
      simp
      omega
theorem passes_bd2 (l : List Line) (hl : l.length ≤ 1000) : ∀ k, ∀ v ∈ (passes l k).2, 0 ≤ v ∧ v ≤ 1000000
  | 0 => by
    intro v hv
    have := List.eq_of_mem_replicate hv
    omega
  | k + 1 => by
    intro v hv
    have h1 := ats_bd (passes l (k + 1)).1 0 (by omega) (passes_bd l (k + 1)) v hv
    have := (passes_length l (k + 1)).1
    omega
theorem ats_zero (a : Int) (l : List Int) (h) : (ats a l)[0]'h = a := by cases l <;> rfl
theorem ats_succ : ∀ (l : List Int) (a : Int) (i : Nat) (h : i < l.length) (h1 h2), (ats a l)[i + 1]'h1 = (ats a l)[i]'h2 + l[i]'h
  | n :: r, a, 0, h, h1, h2 => by
    show (ats (a + n) r)[0]'_ = a + n
    exact ats_zero _ _ _
  | n :: r, a, i + 1, h, h1, h2 => by
    show (ats (a + n) r)[i + 1]'_ = (ats (a + n) r)[i]'_ + r[i]'(by simpa using h)
    exact ats_succ r (a + n) i (by simpa using h) _ _
theorem passes_zero (l : List Line) : ∀ k h, (passes l k).2[0]'h = 0
  | 0, h => by simp [passes]
  | k + 1, h => ats_zero _ _ _
def mid (l l' : List Int) (i : Nat) : List Int := l'.take i ++ l.drop i
theorem mid_length {l l' : List Int} (h : l'.length = l.length) (i : Nat) : (mid l l' i).length = l.length := by simp [mid]; omega
theorem mid_lo {l l' : List Int} (i j : Nat) (hj : j < i) (h) (h') : (mid l l' i)[j]'h = l'[j]'(h') := by
  simp only [mid]
  rw [List.getElem_append_left (by simp; omega), List.getElem_take]
theorem mid_hi {l l' : List Int} (hl : l'.length = l.length) (i j : Nat) (hj : i ≤ j) (h) (h') : (mid l l' i)[j]'h = l[j]'(h') := by
  simp only [mid]
  rw [List.getElem_append_right (by simp; omega), List.getElem_drop]
  congr 1
  simp
  omega
theorem mid_zero (l l' : List Int) : mid l l' 0 = l := by simp [mid]
theorem mid_full {l l' : List Int} (h : l'.length = l.length) : mid l l' l.length = l' := by
  rw [mid, List.take_of_length_le (by omega), List.drop_length, List.append_nil]
end I
namespace I
theorem take_ne {l l' : List Int} (h : l'.length = l.length) (i : Nat) (hi : i < l.length) : (l'.take (i + 1) != l.take (i + 1)) = ((l'.take i != l.take i) || (l'[i]'(by omega) != l[i])) := by
  rw [List.take_succ_eq_append_getElem hi, List.take_succ_eq_append_getElem (show i < l'.length by omega)]
  have e : (l'.take i ++ [l'[i]'(by omega)] = l.take i ++ [l[i]]) ↔ (l'.take i = l.take i ∧ l'[i]'(by omega) = l[i]) := by
    constructor
    · intro h2
      have := List.append_inj h2 (by simp; omega)
      exact ⟨this.1, by simpa using this.2⟩
    · rintro ⟨h1, h2⟩
      rw [h1, h2]
  rw [Bool.eq_iff_iff]
  simp only [Bool.or_eq_true, bne_iff_ne, ne_eq]
  rw [e]
  exact Classical.not_and_iff_not_or_not
theorem lens1_get (l : List Line) (at' lens : List Int) (hl : lens.length = l.length) (i : Nat) (hi : i < l.length) (h) : (lens1 l at' lens)[i]'h = max (lens[i]'(by omega)) ((putB l[i].fn (operand l at' i l[i])).length : Nat) := by
  have e1 : l[i]?.getD default = l[i] := by rw [List.getElem?_eq_getElem hi]; rfl
  have e2 : lens[i]?.getD 0 = lens[i]'(by omega) := by rw [List.getElem?_eq_getElem (by omega)]; rfl
  simp only [lens1, List.getElem_map, List.getElem_range, List.getD_eq_getElem?_getD, e1, e2]
theorem getD_bd {l : List Int} (h : ∀ v ∈ l, 0 ≤ v ∧ v ≤ 1000000) (i : Nat) : 0 ≤ l.getD i 0 ∧ l.getD i 0 ≤ 1000000 := by
  rw [List.getD_eq_getElem?_getD]
  by_cases hi : i < l.length
  · rw [List.getElem?_eq_getElem hi]
    exact h _ (List.getElem_mem hi)
  · rw [List.getElem?_eq_none (by omega)]
    decide
theorem operand_bd {l : List Line} {x : Line} (hx : -2147483648 ≤ x.arg ∧ x.arg ≤ 2147483647) {ns : List Int} (h : ∀ v ∈ ns, 0 ≤ v ∧ v ≤ 1000000) (i : Nat) : -2147483648 ≤ operand l ns i x ∧ operand l ns i x ≤ 2147483647 := by
  unfold operand
  split
  · exact hx
  · have h1 := getD_bd h (place l x.tgt)
    have h2 := getD_bd h (i + 1)
    omega
end I
theorem Ints.sl {w : World} {b : Nat} {l : List Int} (h : Ints w b l) (hb : b < w.heap.size) (hl : l.length ≤ 100000) : Sl w w.heap.size (some ⟨b, 0, none⟩) l.length l.length 1 (l.map iv) := by
  refine ⟨by simp, fun j x hx => ?_, Nat.le_refl _, by unfold maxLen; omega, fun h => by cases h⟩
  have hj : j < l.length := by
    have := (List.getElem?_eq_some_iff.1 hx).1
    simpa using this
  rw [List.getElem?_map, List.getElem?_eq_getElem hj] at hx
  cases hx
  exact ⟨b, 0, rfl, hb, by rw [Nat.zero_add]; exact h.cell j hj⟩
theorem made_ints (W : World) (n : Nat) (t : TypeId) : Ints (W.alloc (.cells (madeCells #[.int .i64 0] n) t)) W.heap.size (List.replicate n 0) := by
  refine ⟨fun j hj => ?_, fun j => by simp [go_sem]⟩
  rw [World.cell?_alloc_new, ← Array.getElem?_toList, toList_madeCells_one]
  simp at hj
  simp [hj]
theorem make_ints (n : Nat) (hn : n ≤ 100000) (v : Int) (hv : v = n) (W : World) : (Instr.makeSlice 59 (.int .i64 v) (.int .i64 v)).run Tryz.prog W = .ok (.slice (some ⟨W.heap.size, 0, none⟩) n n) (W.alloc (.cells (madeCells #[.int .i64 0] n) 3)) := by
  subst hv
  obtain ⟨i, h1, h2, h3, h4⟩ := info_parts (P := Tryz.prog) (e := 3) (z := .int .i64 0) (size := 1) (bytes := 8) (by kernel_rfl)
  have := run_make (P := Tryz.prog) W 59 3 i (.int .i64 0) Tryz.underlying59 h1 h2 .i64 .i64 n n (by omega) (Int.le_refl _) (by rw [h4]; omega) (by omega)
  rw [this, h3]
  simp [Value.cells]
set_option maxHeartbeats 2000000 in
set_option maxRecDepth 100000 in
theorem addresses_any (a : Option Addr) (c : Nat) (l : List I.Line) (hl : l.length ≤ 1000) (hok : ∀ x ∈ l, I.okLine x = true) (hlab : I.labelsOk l = true) (K : Nat) (hchg : ∀ k, k < K → I.changed l k = true) (hstop : I.changed l K = false)
    (b : Nat) (w : World) (hs : Sl w w.heap.size a l.length c 5 (lns l)) (hM : MapL w b l l.length) :
    Calls Tryz.prog 80 #[.slice a l.length c, .map (some b)] w fun e w' =>
      ∃ blk, e = .returned (.slice (some ⟨blk, 0, none⟩) (l.length + 1) (l.length + 1)) ∧ Ints w' blk (I.passes l (K + 1)).2 ∧ w.heap.size ≤ blk ∧ blk < w'.heap.size ∧ Below w.heap.size w w' := by
  have hm1 := make_ints (l.length + 1) (by omega) ((l.length : Int) + 1) (by omega)
  have hm2 := make_ints l.length (by omega) (l.length : Int) rfl
  go_enter Tryz.func80, Tryz.ntmps80
  go_wp2_with fail
  have A0 := made_ints w (l.length + 1) 3
  have L0 := made_ints (w.alloc (.cells (madeCells #[.int .i64 0] (l.length + 1)) 3)) l.length 3
  have hb0 : Below w.heap.size w ((w.alloc (.cells (madeCells #[.int .i64 0] (l.length + 1)) 3)).alloc (.cells (madeCells #[.int .i64 0] l.length) 3)) := ((Below.refl _ _).alloc (Nat.le_refl _) _).alloc (by simp) _
  have A1 := A0.later (((Below.refl _ _).alloc (Nat.le_refl _) (.cells (madeCells #[.int .i64 0] l.length) 3))) (by simp)
  have hsz : ((w.alloc (.cells (madeCells #[.int .i64 0] (l.length + 1)) 3)).alloc (.cells (madeCells #[.int .i64 0] l.length) 3)).heap.size = w.heap.size + 2 := by simp
  rw [show (w.alloc (.cells (madeCells #[.int .i64 0] (l.length + 1)) 3)).heap.size = w.heap.size + 1 by simp] at L0
  generalize (w.alloc (.cells (madeCells #[.int .i64 0] (l.length + 1)) 3)).alloc (.cells (madeCells #[.int .i64 0] l.length) 3) = w2 at *
  clear A0 hm1 hm2
  replace hok := Lib.hid hok
  replace hlab := Lib.hid hlab
  replace hchg := Lib.hid hchg
  replace hstop := Lib.hid hstop
  go_loopg [7, 8, 9, 10, 11, 12, 23, 50] (K + 1) (fun g s7 _ _ _ _ _ _ _ wr => ∃ k, k ≤ K + 1 ∧ g = K + 1 - k ∧ s7 = .bool (decide (k ≤ K)) ∧ Ints wr w.heap.size (I.passes l k).2 ∧ Ints wr (w.heap.size + 1) (I.passes l k).1 ∧ w.heap.size + 2 ≤ wr.heap.size ∧ Below w.heap.size w wr)
  case atStart => exact ⟨0, Nat.zero_le _, rfl, by simp, A1, L0, by omega, hb0⟩
  case round =>
    clear A1 L0 hsz hb0
    obtain ⟨k, hk, rfl, rfl, hA, hL, hz, hb⟩ := hrel
    by_cases hlt : k ≤ K
    · rw [decide_eq_true hlt]
      go_wp2_with fail
      have hlen := I.passes_length l k
      have hzero := I.passes_zero l k
      have hbd := I.passes_bd2 l hl k
      have hnew1 := I.lens1_get l (I.passes l k).2 (I.passes l k).1 hlen.1
      have hnl : (I.passes l (k + 1)).1.length = l.length := (I.passes_length l (k + 1)).1
      have hats : (I.passes l (k + 1)).2 = I.ats 0 (I.passes l (k + 1)).1 := rfl
      have hchd : ((I.passes l (k + 1)).1 != (I.passes l k).1) = decide (k + 1 ≤ K) := by
        show I.changed l k = _
        by_cases h : k < K
        · rw [hchg.out k h, decide_eq_true (by omega)]
        · obtain rfl : k = K := by omega
          rw [hstop.out, decide_eq_false (by omega)]
      rw [show I.lens1 l (I.passes l k).2 (I.passes l k).1 = (I.passes l (k + 1)).1 from rfl] at hnew1
      have hbd9 := I.passes_bd l (k + 1)
      have hbdn := I.passes_bd2 l hl (k + 1)
      have hatl : (I.passes l (k + 1)).2.length = l.length + 1 := (I.passes_length l (k + 1)).2
      generalize hnew : (I.passes l (k + 1)).1 = new at *
      generalize hatn : (I.passes l (k + 1)).2 = atn at *
      generalize (I.passes l k).1 = old at *
      generalize (I.passes l k).2 = ns at *
      replace hnew := Lib.hid hnew
      replace hatn := Lib.hid hatn
      replace hats := Lib.hid hats
      replace hchd := Lib.hid hchd
      replace hnew1 := Lib.hid hnew1
      replace hbd := Lib.hid hbd
      replace hzero := Lib.hid hzero
      replace hbd9 := Lib.hid hbd9
      replace hbdn := Lib.hid hbdn
      obtain ⟨hlo, hln⟩ := hlen
      go_loopg [7, 8, 9, 10, 23] l.length (fun g s7 _ _ _ s23 wr2 => ∃ i q, i ≤ l.length ∧ g = l.length - i ∧ s23 = .int .i64 (i : Nat) ∧ s7 = .bool q ∧ q = (new.take i != old.take i) ∧ Ints wr2 w.heap.size ns ∧ Ints wr2 (w.heap.size + 1) (I.mid old new i) ∧ w.heap.size + 2 ≤ wr2.heap.size ∧ Below w.heap.size w wr2)
      case atStart => exact ⟨0, false, Nat.zero_le _, rfl, rfl, rfl, by simp, hA, by rw [I.mid_zero]; exact hL, hz, hb⟩
      case round =>
        clear hA hL hz hb
        obtain ⟨i, q, hi, rfl, rfl, rfl, hq, hA, hL, hz, hb⟩ := hrel
        replace hq := Lib.hid hq
        by_cases hil : i < l.length
        · obtain ⟨bb, o, rfl, hbb, c0, c1, c2, c3, c4⟩ := (hs.below hb (Nat.le_refl _)).line i hil
          have hxok := hok.out _ (List.getElem_mem hil)
          obtain ⟨x1, x2, x3, x4, xlab, xfrm, xtgt⟩ := okLine_spec hxok
          have hn1 := hnew1.out i hil (by omega)
          have hml := I.mid_length (show new.length = old.length by omega) i
          have hmi := I.mid_hi (show new.length = old.length by omega) i i (Nat.le_refl _) (by omega) (by omega)
          have hcl := hL.cell i (by omega)
          rw [hmi] at hcl
          have htk := I.take_ne (show new.length = old.length by omega) i (by omega)
          have hop := fun (W : World) (hW : Below w.heap.size w W) (hAW : Ints W w.heap.size ns) (hz : w.heap.size + 2 ≤ W.heap.size) =>
            operand_any l l[i] hxok hl (labels_target hlab.out i hil) i hil b (some ⟨w.heap.size, 0, none⟩) ns.length ns hln hbd.out W (hM.later hW) (hAW.sl (by omega) (by omega))
          rw [hln] at hop
          replace hop := Lib.hid hop
          have hlx := fun v W h0 h1 => len_any l[i].fn v W x1 (by simp [I.validI]; omega) h0 h1
          replace hlx := Lib.hid hlx
          have hvb := I.operand_bd (l := l) x4 hbd.out i
          generalize I.operand l ns i l[i] = v at *
          generalize hx : l[i] = x at *
          obtain ⟨lab, fn, arg, tgt, frm⟩ := x
          dsimp only at *
          subst xfrm
          clear xlab xtgt hxok x2 x3 x4
          replace hlx := Lib.hid (fun W => hlx.out v W hvb.1 hvb.2)
          have hpl := I.putB_le fn v
          generalize (I.putB fn v).length = n at *
          clear hmi
          generalize hold : old[i]'(by omega) = oi at *
          replace hold := Lib.hid hold
          replace hx := Lib.hid hx
          have hn1 := Lib.hid hn1
          have htk := Lib.hid htk
          clear hvb
          go_wp2_with fail
          generalize hW : wr.alloc _ = W
          obtain ⟨hbW, hlW, z0, z1, z2, z3, z4⟩ := fam_box5 hW
          have hbF : ∀ nq : Fam W.heap.size W, Below wr.heap.size wr nq.w := fun nq => hbW.trans (nq.below.mono (Nat.le_of_lt hlW))
          clear hW c0 c1 c2 c3 c4
          have hopF := fun nq : Fam W.heap.size W => hop.out nq.w (hb.trans ((hbF nq).mono hb.size)) (hA.later (hbF nq) (by omega)) (by have := (hbF nq).size; omega)
          replace hopF := Lib.hid hopF
          have hbF := Lib.hid hbF
          clear hop
          refine wp_region_fam W.heap.size (by kernel_rfl) (by kernel_rfl) ?_
          repeat (go_big_quiet_step (first
            | (go_at_call 51; exact fam_call (Nat.le_refl _) (hopF.out _))
            | (go_at_call 92; exact fam_call (Nat.le_refl _) (hlx.out _))))
          refine wpQuiet_nil ?_
          rintro _ ⟨nq, rfl⟩
          have hbn : Below w.heap.size w nq.w := hb.trans ((hbF.out nq).mono hb.size)
          have hzn := (hbF.out nq).size
          have hA2 := hA.later (hbF.out nq) (by omega)
          have hL2 := hL.later (hbF.out nq) (by omega)
          have hcl2 := ((hbF.out nq).cell (p := ⟨w.heap.size + 1, i, none⟩) (show w.heap.size + 1 < wr.heap.size by omega)).trans hcl
          have hfr := hL2.free i
          clear hcl z0 z1 z2 z3 z4 hopF
          generalize nq.w = W2 at *
          by_cases hgt : oi < (n : Int)
          · have hmem : new[i]'(by omega) = n := by rw [hn1.out]; omega
            go_wp2_with fail
            go_roundg (l.length - (i + 1))
            case rel =>
              refine ⟨i + 1, true, by omega, rfl, by go_num, rfl, ?_, hA2.other _ (by omega), hL2.set i (by omega) n _ (by rw [I.mid_length (by omega), I.mid_length (by omega)]) (fun h => ?_) (fun j h h' hj => ?_), by simp [World.setCell]; omega, hbn.setCell (p := ⟨w.heap.size + 1, i, none⟩) (by show w.heap.size ≤ w.heap.size + 1; omega) _⟩
              · rw [htk.out, hmem]
                have : ((n : Int) != oi) = true := by simp; omega
                rw [this, Bool.or_true]
              · rw [I.mid_lo (i + 1) i (by omega) h (by omega), hmem]
              · rcases Nat.lt_or_ge j i with hji | hji
                · rw [I.mid_lo (i + 1) j (by omega) h (by rw [I.mid_length (by omega)] at h; omega), I.mid_lo i j hji h' (by rw [I.mid_length (by omega)] at h; omega)]
                · rw [I.mid_hi (by omega) (i + 1) j (by omega) h (by rw [I.mid_length (by omega)] at h; omega), I.mid_hi (by omega) i j hji h' (by rw [I.mid_length (by omega)] at h; omega)]
            case measure => omega
          · have hmem : new[i]'(by omega) = oi := by rw [hn1.out]; omega
            have hgt1 : decide (oi < (n : Int)) = false := by simpa using hgt
            go_wp2_with fail
            go_roundg (l.length - (i + 1))
            case rel =>
              refine ⟨i + 1, q, by omega, rfl, by go_num, rfl, ?_, hA2, ?_, by omega, hbn⟩
              · rw [htk.out, hmem, ← hq.out]
                simp
              · have : I.mid old new (i + 1) = I.mid old new i := by
                  refine List.ext_getElem (by rw [I.mid_length (by omega), I.mid_length (by omega)]) fun j h h' => ?_
                  rcases Nat.lt_or_ge j i with hji | hji
                  · rw [I.mid_lo (i + 1) j (by omega) h (by rw [I.mid_length (by omega)] at h; omega), I.mid_lo i j hji h' (by rw [I.mid_length (by omega)] at h; omega)]
                  · rcases Nat.eq_or_lt_of_le hji with rfl | hji2
                    · rw [I.mid_lo (i + 1) i (by omega) h (by rw [I.mid_length (by omega)] at h; omega), hmem, I.mid_hi (by omega) i i (Nat.le_refl _) h' (by rw [I.mid_length (by omega)] at h; omega), hold.out]
                    · rw [I.mid_hi (by omega) (i + 1) j (by omega) h (by rw [I.mid_length (by omega)] at h; omega), I.mid_hi (by omega) i j hji h' (by rw [I.mid_length (by omega)] at h; omega)]
                rw [this]
                exact hL2
            case measure => omega
        · obtain rfl : i = l.length := by omega
          rw [I.mid, List.take_of_length_le (by omega), List.drop_of_length_le (by omega), List.append_nil] at hL
          have hq2 := hq.out
          rw [List.take_of_length_le (by omega), List.take_of_length_le (by omega), hchd.out] at hq2
          subst hq2
          have hAm : I.mid ns atn 1 = ns := by
            refine List.ext_getElem (by rw [I.mid_length (by omega)]) fun j h h' => ?_
            rcases Nat.eq_zero_or_pos j with rfl | hj
            · rw [I.mid_lo 1 0 (by omega) h (by omega), hzero.out h']
              have := I.ats_zero 0 new
              rw [← hats.out] at this
              exact this _
            · rw [I.mid_hi (by omega) 1 j hj h h']
          go_wp2_with fail
          go_loopg [11, 12, 50] l.length (fun g _ _ s50 wr3 => ∃ i, i ≤ l.length ∧ g = l.length - i ∧ s50 = .int .i64 (i : Nat) ∧ Ints wr3 w.heap.size (I.mid ns atn (i + 1)) ∧ Ints wr3 (w.heap.size + 1) new ∧ w.heap.size + 2 ≤ wr3.heap.size ∧ Below w.heap.size w wr3)
          case atStart => exact ⟨0, Nat.zero_le _, rfl, rfl, by rw [hAm]; exact hA, hL, hz, hb⟩
          case round =>
            clear hA hL hz hb hAm
            obtain ⟨i, hi, rfl, rfl, hA, hL, hz, hb⟩ := hrel
            by_cases hil : i < l.length
            · have m0 := I.mid_length (show atn.length = ns.length by omega) (i + 1)
              have c1 := hA.cell i (by omega)
              rw [I.mid_lo (i + 1) i (by omega) (by omega) (by omega)] at c1
              have c2 := hL.cell i (by omega)
              have c3 : ∃ v, wr.cell? ⟨w.heap.size, i + 1, none⟩ = some v := ⟨_, hA.cell (i + 1) (by omega)⟩
              obtain ⟨v3, c3⟩ := c3
              have f3 := hA.free (i + 1)
              have hsum := I.ats_succ new 0 i (by omega)
              rw [← hats.out] at hsum
              have hsum := hsum (by omega) (by omega)
              have b1 := hbdn.out _ (List.getElem_mem (show i < atn.length by omega))
              have b2 := hbd9.out _ (List.getElem_mem (show i < new.length by omega))
              generalize hn1 : atn[i]'(by omega) = n1 at *
              generalize hn2 : new[i]'(by omega) = n2 at *
              replace hn1 := Lib.hid hn1
              replace hn2 := Lib.hid hn2
              replace hsum := Lib.hid hsum
              go_wp2_with fail
              go_roundg (l.length - (i + 1))
              case rel =>
                refine ⟨i + 1, by omega, rfl, by go_num, hA.set (i + 1) (by omega) (n1 + n2) _ (by rw [I.mid_length (by omega), I.mid_length (by omega)]) (fun h => ?_) (fun j h h' hj => ?_), hL.other _ (by omega), by simp [World.setCell]; omega, hb.setCell (p := ⟨w.heap.size, i + 1, none⟩) (Nat.le_refl _) _⟩
                · rw [I.mid_lo (i + 1 + 1) (i + 1) (by omega) h (by omega), hsum.out]
                · rcases Nat.lt_or_ge j (i + 1) with hji | hji
                  · rw [I.mid_lo (i + 1 + 1) j (by omega) h (by rw [I.mid_length (by omega)] at h; omega), I.mid_lo (i + 1) j hji h' (by rw [I.mid_length (by omega)] at h; omega)]
                  · rw [I.mid_hi (by omega) (i + 1 + 1) j (by omega) h (by rw [I.mid_length (by omega)] at h; omega), I.mid_hi (by omega) (i + 1) j hji h' (by rw [I.mid_length (by omega)] at h; omega)]
              case measure => omega
            · obtain rfl : i = l.length := by omega
              rw [I.mid, List.take_of_length_le (by omega), List.drop_of_length_le (by omega), List.append_nil] at hA
              go_wp2_with fail
              go_roundg (K + 1 - (k + 1))
              case rel => exact ⟨k + 1, by omega, rfl, rfl, by rw [hatn.out]; exact hA, by rw [hnew.out]; exact hL, hz, hb⟩
              case measure => omega
    · rw [decide_eq_false hlt]
      obtain rfl : k = K + 1 := by omega
      go_wp2_with fail
      go_ret
      exact ⟨_, rfl, hA, Nat.le_refl _, by omega, hb⟩
end Go.Proofs.YtcblefmjacofgaaGreatDoor
namespace Go.Proofs.YtcblefmjacofgaaGreatDoor
open Go.RowKit
theorem app_wp {P : Program} {w : World} {o : Oper} {a : Act} {K : Act → World → Prop} {Q : Exit → Act → World → Prop} (s x : Operand) (t : TypeId)
    (ho : o.op = .call { callee := .builtin .append, args := #[s, x], argTypes := #[t, t] })
    {e : TypeId} {size bytes : Nat} (he : Elem P t e size bytes)
    {base : Nat} {va : Option Addr} {n c : Nat} {xs : List Value} (hs : a.eval s = .slice va n c) (hown : w.ownsRow base e size (.slice va n c) n xs)
    {B : Nat} {xa : Option Addr} {m xc : Nat} {news : List Value} (hx : a.eval x = .slice xa m xc) (hsl : Sl w B xa m xc size news) (h1 : ∀ u ∈ news, u.oneCell' = true)
    (h63 : n + m ≤ 1000000000000) (hby : bytes ≤ 128) (hbase : base ≤ w.heap.size)
    (h : ∀ a' c' w', w'.ownsRow base e size (.slice a' (n + m) c') (n + m) (xs ++ news) → Below base w w' → K (a.put o.dst (.slice a' (n + m) c')) w') :
    o.wp P a w K Q := by
  obtain ⟨i, z, ht, hi, hz, hsize, hbytes, hzs, hpos⟩ := he
  have hbound : (n + m) * bytes ≤ 140737488355328 := Nat.le_trans (Nat.mul_le_mul h63 hby) (by omega)
  cases xa with
  | none =>
    have hc0 := hsl.nil rfl
    have hm0 : m = 0 := by have := hsl.cap; omega
    subst hm0; subst hc0
    have hn0 : news = [] := List.eq_nil_of_length_eq_zero (by have := hsl.len; omega)
    subst hn0
    have hrun := run_append_owned_none (P := P) (w := w) base t o.type e i size ht hi _ n xs hown
    have hh := h va c w (by simpa using hown) (Below.refl _ _)
    unfold Oper.wp
    simp [execOp, ho, resolve, invoke, builtin, hs, hx, hrun, Result.andThen]
    rw [Oper.upon_value]
    simpa using hh
  | some ad =>
    refine wp_append_own w s x t ho base e i z size bytes ht hi hz hsize hbytes hzs hpos _ n xs hs hown ad m xc news hx hsl.len ?_ h1 (by unfold maxLen; omega) hbound hbase ?_
    · intro j u hu
      obtain ⟨b, o', e', _, hc⟩ := hsl.rd j u hu
      cases e'
      have ha : (⟨b, o', none⟩ : Addr).add j = ⟨b, o' + j, none⟩ := by unfold Addr.add; split <;> simp_all
      rw [ha]
      exact hc
    · intro v' w' hown' hg _
      obtain ⟨a', c', rfl, _⟩ := owns_shape hown'
      exact h a' c' w' hown' (grown_below hown hbase hg)
set_option maxHeartbeats 1000000 in
set_option maxRecDepth 100000 in
theorem encoded_any (x : I.Line) (v : Int) (w : World) (hfn : x.fn ≤ 15) (hval : I.validI x.fn = true) (h0 : -2147483648 ≤ v) (h1 : v ≤ 2147483647) :
    Calls Tryz.prog 50 #[.agg #[.string ⟨x.lab.toArray⟩, .int .u8 (x.fn : Nat), .int .i32 x.arg, .string ⟨x.tgt.toArray⟩, .string ⟨x.frm.toArray⟩], .int .i32 v] w
      fun e w' => ∃ a c n, n = (I.putB x.fn v).length ∧ e = .returned (.slice a n c) ∧ Sl w' w'.heap.size a n c 1 ((I.putB x.fn v).map bv) ∧ Below w.heap.size w w' := by
  obtain ⟨lab, fn, arg, tgt, frm⟩ := x
  dsimp only at *
  go_enter Tryz.func50, Tryz.ntmps50
  go_wp2_with fail
  refine (iput_any fn v _ hfn hval h0 h1).mono ?_
  rintro e w1 ⟨a, c, n, hn, rfl, hs, hb1⟩
  replace hn := Lib.hid hn
  replace hs := Lib.hid hs
  go_wp2_with fail
  go_ret
  exact ⟨a, c, n, hn.out, rfl, hs.out, ((Below.refl _ _).alloc (Nat.le_refl _) _).trans (hb1.mono (by simp))⟩
theorem I.passes_bd3 (l : List I.Line) (k : Nat) : ∀ v ∈ (I.passes l (k + 1)).2, 0 ≤ v ∧ v ≤ 9 * l.length := by
  intro v hv
  have h1 := I.ats_bd (I.passes l (k + 1)).1 0 (by omega) (I.passes_bd l (k + 1)) v hv
  have := (I.passes_length l (k + 1)).1
  omega
set_option maxHeartbeats 2000000 in
set_option maxRecDepth 100000 in
theorem layout_any (a : Option Addr) (c : Nat) (l : List I.Line) (hl : l.length ≤ 1000) (hok : ∀ x ∈ l, I.okLine x = true) (hlab : I.labelsOk l = true) (K : Nat) (hchg : ∀ k, k < K → I.changed l k = true) (hstop : I.changed l K = false)
    (w : World) (hT : Tabs w) (hs : Sl w w.heap.size a l.length c 5 (lns l)) :
    Calls Tryz.prog 49 #[.slice a l.length c] w fun e w' =>
      ∃ b blk, e = .returned (.tuple #[.map (some b), .slice (some ⟨blk, 0, none⟩) (l.length + 1) (l.length + 1), .int .i64 0]) ∧ Ints w' blk (I.passes l (K + 1)).2 ∧ MapL w' b l l.length ∧ b < w'.heap.size ∧ w.heap.size ≤ blk ∧ blk < w'.heap.size ∧ Below w.heap.size w w' := by
  have h0 := check_yes a c l hl hok hlab w hT hs
  have h1 := fun (b : Nat) (W : World) hs hM => addresses_any a c l hl hok hlab K hchg hstop b W hs hM
  replace h1 := Lib.hid h1
  have hp := I.passes_bd3 l K
  have hpl := (I.passes_length l (K + 1)).2
  generalize (I.passes l (K + 1)).2 = ns at *
  replace hp := Lib.hid hp
  clear hchg hstop hok hlab
  go_enter Tryz.func49, Tryz.ntmps49
  go_wp2_with fail
  refine h0.mono ?_
  rintro e w1 ⟨b, rfl, hM, hbw, hb1⟩
  have hlt : ((l.length : Nat) : Int) ≤ 32768 := by omega
  go_wp2_with fail
  refine (h1.out b w1 (hs.below hb1 (Nat.le_refl _) |>.later (Below.refl _ _)) hM).mono ?_
  rintro e w2 ⟨blk, rfl, hI, hbl, hbl2, hb2⟩
  have hb12 := hb1.trans (hb2.mono hb1.size)
  have hc := hI.cell l.length (by omega)
  have hpn := hp.out _ (List.getElem_mem (show l.length < ns.length by omega))
  generalize ns[l.length]'(by omega) = n1 at *
  have hn1 : n1 ≤ 32768 := by omega
  go_wp2_with fail
  go_ret3
  exact ⟨b, blk, rfl, hI, hM.later hb2, by obtain ⟨_, _, _, hh, _⟩ := hM.later hb2; exact hh.lt, by have := hb1.size; omega, hbl2, hb12⟩
def I.codeN (l : List I.Line) (ns : List Int) (k : Nat) : List UInt8 := (List.range k).flatMap fun i => I.putB (l.getD i default).fn (I.operand l ns i (l.getD i default))
theorem I.codeN_succ (l : List I.Line) (ns : List Int) (k : Nat) (hk : k < l.length) : I.codeN l ns (k + 1) = I.codeN l ns k ++ I.putB l[k].fn (I.operand l ns k l[k]) := by
  have e1 : l.getD k default = l[k] := by rw [List.getD_eq_getElem?_getD, List.getElem?_eq_getElem hk]; rfl
  rw [I.codeN, List.range_succ, List.flatMap_append, List.flatMap_cons, List.flatMap_nil, List.append_nil, e1]
  rfl
theorem I.codeN_le (l : List I.Line) (ns : List Int) (k : Nat) (hk : k ≤ l.length) : (I.codeN l ns k).length ≤ 9 * k := by
  induction k with
  | zero => simp [I.codeN]
  | succ k ih =>
    rw [I.codeN_succ l ns k hk, List.length_append]
    have := I.putB_le l[k].fn (I.operand l ns k l[k])
    have := ih (by omega)
    omega
set_option maxHeartbeats 2000000 in
set_option maxRecDepth 100000 in
theorem assemble_any (a : Option Addr) (c : Nat) (l : List I.Line) (hl : l.length ≤ 1000) (hok : ∀ x ∈ l, I.okLine x = true) (hlab : I.labelsOk l = true) (K : Nat) (hchg : ∀ k, k < K → I.changed l k = true) (hstop : I.changed l K = false)
    (w : World) (hT : Tabs w) (hs : Sl w w.heap.size a l.length c 5 (lns l)) :
    Calls Tryz.prog 27 #[.slice a l.length c] w fun e w' =>
      ∃ a1 c1 n v2, n = (I.code l (I.passes l (K + 1)).2).length ∧ e = .returned (.tuple #[.slice a1 n c1, v2, .int .i64 0]) ∧ w'.ownsRow w.heap.size 5 1 (.slice a1 n c1) n ((I.code l (I.passes l (K + 1)).2).map bv) ∧ Below w.heap.size w w' := by
  have h0 := layout_any a c l hl hok hlab K hchg hstop w hT hs
  have hbd := I.passes_bd2 l hl (K + 1)
  have hln := (I.passes_length l (K + 1)).2
  have hcode : I.code l (I.passes l (K + 1)).2 = I.codeN l (I.passes l (K + 1)).2 l.length := rfl
  rw [hcode]
  generalize (I.passes l (K + 1)).2 = ns at *
  have hcl := I.codeN_le l ns
  replace hcl := Lib.hid hcl
  replace hbd := Lib.hid hbd
  clear hchg hstop hcode
  replace hok := Lib.hid hok
  replace hlab := Lib.hid hlab
  go_enter Tryz.func27, Tryz.ntmps27
  go_wp2_with fail
  refine h0.mono ?_
  rintro e w1 ⟨b, blk, rfl, hI, hM, hbb, hbl, hbl2, hb1⟩
  go_wp2_with fail
  have hz1 := hb1.size
  have hsz := hs.below hb1 (Nat.le_refl _)
  replace h0 := trivial
  clear h0
  go_loopg [2, 6, 7, 19] l.length (fun g s2 _ _ s19 wr => ∃ k n' va cp, k ≤ l.length ∧ g = l.length - k ∧ s19 = .int .i64 (k : Nat) ∧ s2 = .slice va n' cp ∧ n' = (I.codeN l ns k).length ∧ wr.ownsRow w1.heap.size 5 1 (.slice va n' cp) n' ((I.codeN l ns k).map bv) ∧ Below w1.heap.size w1 wr)
  case atStart => exact ⟨0, 0, none, 0, Nat.zero_le _, rfl, rfl, rfl, rfl, nil_owns _ _, Below.refl _ _⟩
  case round =>
    obtain ⟨k, n', va, cp, hk, rfl, rfl, rfl, hn', hown, hb⟩ := hrel
    replace hn' := Lib.hid hn'
    have hz := hb.size
    by_cases hlt : k < l.length
    · obtain ⟨bb, o, rfl, hbb', c0, c1, c2, c3, c4⟩ := (hsz.below (hb.mono hz1) (Nat.le_refl _)).line k hlt
      have hxok := hok.out _ (List.getElem_mem hlt)
      obtain ⟨x1, x2, x3, x4, xlab, xfrm, xtgt⟩ := okLine_spec hxok
      have hvb := I.operand_bd (l := l) x4 hbd.out k
      have hop := fun (W : World) (hW : Below w1.heap.size w1 W) (hz : w1.heap.size ≤ W.heap.size) =>
        operand_any l l[k] hxok hl (labels_target hlab.out k hlt) k hlt b (some ⟨blk, 0, none⟩) ns.length ns hln hbd.out W (hM.later hW) ((hI.later hW hbl2).sl (by omega) (by omega))
      rw [hln] at hop
      replace hop := Lib.hid hop
      have hen := fun v W h0 h1 => encoded_any l[k] v W x1 (by simp [I.validI]; omega) h0 h1
      replace hen := Lib.hid (fun W => hen (I.operand l ns k l[k]) W hvb.1 hvb.2)
      have hcs := I.codeN_succ l ns k hlt
      have hcl1 := hcl.out (k + 1) hlt
      rw [hcs, List.length_append] at hcl1
      generalize I.operand l ns k l[k] = v at *
      generalize hx : l[k] = x at *
      obtain ⟨lab, fn, arg, tgt, frm⟩ := x
      dsimp only at *
      subst xfrm
      clear xlab xtgt hxok x2 x3 x4 hcl hbd
      replace hx := Lib.hid hx
      replace hcs := Lib.hid hcs
      generalize hP : I.putB fn v = P at *
      clear hP
      go_wp2_with fail
      generalize hW : wr.alloc _ = W
      have d0 : ∀ j x, (lnv ⟨lab, fn, arg, tgt, []⟩)[j]? = some x → W.cell? ⟨wr.heap.size, j, none⟩ = some x := fun j x hx => by
        rw [← hW, World.cell?_alloc_new]
        simpa using hx
      have hbW : Below w1.heap.size w1 W := by rw [← hW]; exact hb.alloc hz _
      have hownW : W.ownsRow w1.heap.size 5 1 (.slice va n' cp) n' ((I.codeN l ns k).map bv) := by rw [← hW]; exact hown.alloc _
      clear hW c0 c1 c2 c3 c4 hown hb
      have e0 := late_cell (d0 0 _ rfl)
      have e1 := late_cell (d0 1 _ rfl)
      have e2 := late_cell (d0 2 _ rfl)
      have e3 := late_cell (d0 3 _ rfl)
      have e4 := late_cell (d0 4 _ rfl)
      have hopL := fun lt : Late W => toG (hop.out lt.w (hbW.trans (lt.grows.mono hbW.size)) (Nat.le_trans hbW.size lt.grows.size))
      replace hopL := Lib.hid hopL
      clear hop d0
      refine wp_region_mix2 [8, 9] [(0, .quiet), (1, .quiet), (2, .quiet), (3, .quiet), (4, .quiet), (5, .quiet), (6, .quiet), (7, .grow), (8, .bar), (9, .bar)] (by kernel_rfl) (by kernel_rfl) (by kernel_rfl) (by kernel_rfl) (fun _ _ d _ _ h => by cases d <;> exact h) ?_
      simp only [planOps, List.getElem?_toArray, List.getElem?_cons_zero, List.getElem?_cons_succ]
      repeat ((with_reducible refine mix_quiet (fun K hK => ?_)); go_simp; first | (refine hK _ ?_; clear hK K) | (apply Exists.intro; refine ⟨fun lt => ?_, hK _ ?_⟩; (first | with_reducible exact hopL.out lt); clear hK K))
      refine mix_grow (fun lt K hK => ?_)
      go_simp
      refine (hen.out lt.w).mono ?_
      rintro e w3 ⟨a3, c3, n3, hn3, rfl, hs3, hb3⟩
      subst hn3
      refine hK _ _ hb3 ?_
      clear hK K
      have hg3 : Below W.heap.size W w3 := Grows.trans lt.grows hb3
      refine mix_bar (fun lt2 K hK => ?_)
      rw [if_pos (by rfl)]
      have hg4 : Below W.heap.size W lt2.w := Grows.trans hg3 lt2.grows
      refine app_wp (.tmp 24) (.tmp 31) 30 rfl Tryz.elB rfl (owns_later hownW hg4 (Nat.le_refl _)) rfl (hs3.later lt2.grows) (oneCell_bytes _) (by have := hn'.out; omega) (by omega) (by have := hbW.size; have := hg4.size; omega) ?_
      intro a4 c4 w4 hown4 hb4
      refine hK _ _ ?_
      clear hK K
      refine mix_bar (fun lt3 K hK => ?_)
      go_simp
      refine hK _ _ ?_
      clear hK K
      refine mix_nil (fun lt4 => ?_)
      have hg5 : Grows w4 lt4.w := Grows.trans lt3.grows lt4.grows
      have hown5 := owns_later hown4 hg5 (Nat.le_refl _)
      have hbf : Below w1.heap.size w1 lt4.w := hbW.trans ((hg4.mono hbW.size).trans (hb4.trans (hg5.mono (by have := hbW.size; have := hg4.size; have := hb4.size; omega))))
      rw [← List.map_append, ← hcs.out] at hown5
      have hn5 : n' + P.length = (I.codeN l ns (k + 1)).length := by rw [hcs.out, List.length_append, ← hn'.out]
      rw [hn5] at hown5
      generalize lt4.w = W6 at *
      generalize hnn : n' + P.length = n5 at *
      replace hn5 := Lib.hid hn5
      clear e0 e1 e2 e3 e4 hopL hen hownW hown4 hb3 hs3 hcl1
      replace hown5 := Lib.hid hown5
      go_wp2_with fail
      go_roundg (l.length - (k + 1))
      case rel => exact ⟨k + 1, n5, a4, c4, by omega, rfl, by go_num, rfl, hn5.out, by rw [hn5.out]; exact hown5.out, hbf⟩
      case measure => omega
    · obtain rfl : k = l.length := by omega
      have hfin := owns_mono hown hz1
      replace hfin := Lib.hid hfin
      have hbf := hb1.trans (hb.mono hz1)
      clear hown
      go_wp2_with fail
      have q1 : (l.length : Int) ≤ (l.length : Int) + 1 := by omega
      have q2 : l.length ≤ l.length + 1 := by omega
      have q3 : decide (((l.length : Nat) : Int) ≤ (l.length : Int) + 1) = true := by simp; omega
      go_region
      go_wp2_with fail
      go_ret3
      exact ⟨va, cp, n', _, hn'.out, rfl, owns_later hfin.out (Below.refl _ _).drew (Nat.le_refl _), hbf.drew⟩
end Go.Proofs.YtcblefmjacofgaaGreatDoor
