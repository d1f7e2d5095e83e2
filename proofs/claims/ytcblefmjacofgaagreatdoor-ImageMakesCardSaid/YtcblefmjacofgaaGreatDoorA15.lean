/- Parts: RowD, RowE, RowF, RowG. -/
import Derived.Test.YtcblefmjacofgaaGreatDoorRows
import Derived.ProofKit
import Derived.OpenShut
import Derived.ShutString
import Derived.ChangeOld
import Derived.Below
import Derived.Test.YtcblefmjacofgaaGreatDoorA3
import Derived.Deep.Slices
import Derived.Test.YtcblefmjacofgaaGreatDoorA9
import Derived.Test.YtcblefmjacofgaaGreatDoorA5
import Derived.Test.YtcblefmjacofgaaGreatDoorA8
import Derived.LaidMore
import Derived.Stop.Joined
set_option linter.all false
set_option linter.unusedVariables false
set_option linter.unusedSimpArgs false
namespace Go.Proofs.YtcblefmjacofgaaGreatDoor
open Go.ChangeShapes Go.WideShapes Go.ChangeAt Go.RowKit
theorem add_none {w : World} {x : Addr} {j : Nat} {v : Value} (h : w.cell? (x.add j) = some v) : (x.add j).spot = none := by
  cases hs : (x.add j).spot with
  | none => rfl
  | some q =>
    unfold World.cell? at h
    split at h
    · simp [hs] at h
    · cases h
theorem add_at {w : World} {x : Addr} {j : Nat} {v : Value} (h : w.cell? (x.add j) = some v) (hx : x.spot = none) : w.cell? ⟨x.block, x.off + j, none⟩ = some v := by
  have e : x.add j = ⟨x.block, x.off + j, none⟩ := by
    unfold Addr.add
    split
    · rename_i h0
      subst h0
      cases x
      simp_all
    · rfl
  rw [← e]
  exact h
theorem sl_of_cells {w : World} {x : Addr} {n c size : Nat} {xs : List Value} (h : ∀ j v, xs[j]? = some v → w.cell? (x.add j) = some v) (hl : xs.length = n * size) (hc : n ≤ c) (hm : c ≤ maxLen) :
    Sl w w.heap.size (some x) n c size xs := by
  refine ⟨hl, ?_, hc, hm, fun h => by cases h⟩
  intro j v hv
  have h0 : ∃ u, xs[0]? = some u := by
    cases xs with
    | nil => cases hv
    | cons u us => exact ⟨u, rfl⟩
  obtain ⟨u, hu⟩ := h0
  have hx : x.spot = none := by
    have := add_none (h 0 u hu)
    unfold Addr.add at this
    simpa using this
  have hcell := add_at (h j v hv) hx
  refine ⟨x.block, x.off, ?_, World.block_lt_of_cell? w ⟨x.block, x.off + j, none⟩ hcell, hcell⟩
  obtain ⟨xb, xo, xs'⟩ := x
  obtain rfl : xs' = none := hx
  rfl
def NoM : Nat → Nat → Prop := fun _ _ => False
def Opn (P : Program) (t : TypeId) (G : List D → Prop) : Prop :=
  ∀ (H : Type) (enc : TypeId × Value → H) (w : World) (base : Nat) (spare : Nat → Bool) (held : Bool) (fuel : Nat) (cs : List Value) (x : DataW H × List MemPlace),
    DataW.trod enc P w base spare held fuel t cs = some x → ∃ ds, G ds ∧ RepA w NoM ds cs
theorem Opn.mono {P : Program} {t : TypeId} {G G' : List D → Prop} (h : Opn P t G) (hg : ∀ ds, G ds → G' ds) : Opn P t G' := fun H enc w b s hd f cs x hx => by
  obtain ⟨ds, h1, h2⟩ := h H enc w b s hd f cs x hx
  exact ⟨ds, hg _ h1, h2⟩
theorem RepA.single {w : World} {M : Nat → Nat → Prop} {x : D} {v : Value} (h1 : v.oneCell' = true) (h : RepD w M x v) : RepA w M [x] [v] := ⟨v, [], rfl, h1, h, rfl⟩
theorem opn_int {P : Program} {t : TypeId} {k : IntKind} (ht : P.underlying t = some (.int k)) : Opn P t (fun ds => ∃ n, ds = [.int k n] ∧ (Lit.int k n).wf = true) := fun H enc w b s hd f cs x hx => by
  obtain ⟨n, rfl, _, hw⟩ := DataW.trod_int ht hx
  exact ⟨_, ⟨n, rfl, hw⟩, RepA.single rfl rfl⟩
theorem opn_bool {P : Program} {t : TypeId} (ht : P.underlying t = some .bool) : Opn P t (fun ds => ∃ b, ds = [.bool b]) := fun H enc w b s hd f cs x hx => by
  obtain ⟨n, rfl, _⟩ := DataW.trod_bool ht hx
  exact ⟨_, ⟨n, rfl⟩, RepA.single rfl rfl⟩
theorem opn_string {P : Program} {t : TypeId} (ht : P.underlying t = some .string) : Opn P t (fun ds => ∃ s : ByteArray, ds = [.str s] ∧ s.size ≤ maxLen) := fun H enc w b s hd f cs x hx => by
  obtain ⟨n, rfl, _, hm⟩ := DataW.trod_string ht hx
  exact ⟨_, ⟨n, rfl, hm⟩, RepA.single rfl rfl⟩
theorem choose_list' {α : Type} {n : Nat} {p : Nat → α → Prop} (h : ∀ i, i < n → ∃ x, p i x) : ∃ l : List α, l.length = n ∧ ∀ i (hi : i < l.length), p i l[i] := by
  induction n with
  | zero => exact ⟨[], rfl, fun i hi => absurd hi (Nat.not_lt_zero _)⟩
  | succ n ih =>
    obtain ⟨l, hl, hp⟩ := ih (fun i hi => h i (by omega))
    obtain ⟨x, hx⟩ := h n (by omega)
    refine ⟨l ++ [x], by simp [hl], fun i hi => ?_⟩
    by_cases hin : i < l.length
    · rw [List.getElem_append_left hin]; exact hp i hin
    · obtain rfl : i = n := by simp at hi; omega
      rw [List.getElem_append_right (by omega)]
      simpa [hl] using hx
def boxOf (one : Bool) (cs : List Value) : Value := match one, cs with
  | true, [v] => v
  | _, _ => .agg cs.toArray
def datOf (one : Bool) (ds : List D) : D := match one, ds with
  | true, [d] => d
  | _, _ => .agg ds
theorem rep_box {w : World} {M : Nat → Nat → Prop} {one : Bool} {ds : List D} {cs : List Value} (h : RepA w M ds cs) (h1 : one = true → ds.length = 1) :
    RepD w M (datOf one ds) (boxOf one cs) ∧ (boxOf one cs).cells.toList = cs := by
  have hl := h.length
  cases one with
  | false =>
    refine ⟨⟨cs, rfl, h⟩, ?_⟩
    simp [boxOf, Value.cells]
  | true =>
    have h1 := h1 rfl
    obtain ⟨d, rfl⟩ := List.length_eq_one_iff.1 h1
    obtain ⟨v, rfl⟩ := List.length_eq_one_iff.1 (hl.trans h1)
    obtain ⟨_, _, e, h2, h3, _⟩ := h
    simp at e
    obtain ⟨rfl, rfl⟩ := e
    refine ⟨h3, ?_⟩
    simp only [boxOf]
    cases v <;> simp_all [Value.cells, Value.oneCell']
theorem rep_list {w : World} {M : Nat → Nat → Prop} {one : Bool} {sz : Nat} : ∀ (xs : List (List D)) (ys : List (List Value)), xs.length = ys.length → (∀ i (h : i < xs.length) (k : i < ys.length), RepA w M xs[i] ys[i] ∧ ys[i].length = sz) → (one = true → sz = 1) →
    RepE w M sz (xs.map (datOf one)) ys.flatten
  | [], [], _, _, _ => rfl
  | x :: xs, y :: ys, hl, h, h1 => by
    obtain ⟨h2, h3⟩ := h 0 (by simp) (by simp)
    simp at h2 h3
    obtain ⟨h4, h5⟩ := rep_box (one := one) h2 (fun e => by rw [← h2.length, h3, h1 e])
    refine ⟨boxOf one y, ys.flatten, by rw [h5]; rfl, ?_, h4, rep_list xs ys (by simpa using hl) (fun i a b => ?_) h1⟩
    · rw [← Array.length_toList, h5, h3]
    · have := h (i + 1) (by simpa using a) (by simpa using b)
      simpa using this
theorem opn_slice {P : Program} {t e : TypeId} {G : List D → Prop} (one : Bool) (sz : Nat) (ht : P.underlying t = some (.slice e)) (hc : P.cellsOf e = sz) (h1 : one = true → sz = 1) (he : Opn P e G) :
    Opn P t (fun ds => ∃ xs : List (List D), ds = [.list sz (xs.map (datOf one))] ∧ (∀ x ∈ xs, G x ∧ x.length = sz) ∧ xs.length ≤ maxLen) := fun H enc w b s hd f cs x hx => by
  subst hc
  rcases Go.Deep.open_slice ht hx with ⟨rfl, _⟩ | ⟨p, n, c, m, f', D', Pl, rfl, _, hl, hm, hmm, _, hi⟩
  · refine ⟨_, ⟨[], rfl, by simp, by simp⟩, RepA.single rfl ⟨none, 0, [], rfl, Nat.le_refl _, Nat.zero_le _, fun _ => rfl, rfl, fun j y hj => by simp at hj⟩⟩
  · have hle : n ≤ m := by rw [hmm]; split <;> omega
    obtain ⟨l, hlen, hp⟩ := choose_list' (n := n) (p := fun i (y : List D × List Value) => G y.1 ∧ RepA w NoM y.1 y.2 ∧ y.2.length = P.cellsOf e ∧ ∀ j v, y.2[j]? = some v → w.cell? (p.add (i * P.cellsOf e + j)) = some v) (fun i hin => by
      obtain ⟨cs', h2, h3⟩ := hi i (by omega)
      obtain ⟨ds, h4, h5⟩ := he H enc w b s hd f' cs' _ h3
      obtain ⟨_, hcl, hat⟩ := World.cells?_some h2
      refine ⟨(ds, cs'), h4, h5, hcl, fun j v hv => ?_⟩
      have hj : j < P.cellsOf e := by rw [← hcl]; exact (List.getElem?_eq_some_iff.1 hv).1
      rw [← Go.Deep.add_add, hat j hj, hv])
    have hflat : ∀ (l : List (List D × List Value)) (o : Nat), (∀ i (h : i < l.length), l[i].2.length = P.cellsOf e ∧ ∀ j v, l[i].2[j]? = some v → w.cell? (p.add ((o + i) * P.cellsOf e + j)) = some v) →
        ∀ j v, (l.map (·.2)).flatten[j]? = some v → w.cell? (p.add (o * P.cellsOf e + j)) = some v := by
      intro l
      induction l with
      | nil => intro o _ j v hv; simp at hv
      | cons y l ih =>
        intro o h j v hv
        obtain ⟨h2, h3⟩ := h 0 (by simp)
        simp at h2 h3
        rw [List.map_cons, List.flatten_cons] at hv
        by_cases hj : j < y.2.length
        · rw [List.getElem?_append_left hj] at hv
          exact h3 j v hv
        · rw [List.getElem?_append_right (by omega)] at hv
          have := ih (o + 1) (fun i hi => by have := h (i + 1) (by simpa using hi); simpa [Nat.add_comm, Nat.add_left_comm] using this) _ v hv
          rw [show (o + 1) * P.cellsOf e + (j - y.2.length) = o * P.cellsOf e + j by rw [Nat.add_mul, h2]; omega] at this
          exact this
    have hs : Sl w w.heap.size (some p) n c (P.cellsOf e) (l.map (·.2)).flatten := by
      refine sl_of_cells (fun j v hv => ?_) ?_ hl hm
      · have := hflat l 0 (fun i hi => ⟨(hp i hi).2.2.1, fun j v hv => by simpa using (hp i hi).2.2.2 j v hv⟩) j v hv
        simpa using this
      · have : ∀ (l : List (List D × List Value)), (∀ i (h : i < l.length), l[i].2.length = P.cellsOf e) → (l.map (·.2)).flatten.length = l.length * P.cellsOf e := by
          intro l
          induction l with
          | nil => intro _; simp
          | cons y l ih =>
            intro h
            have h2 := h 0 (by simp)
            simp at h2
            have := ih (fun i hi => h (i + 1) (by simpa using hi))
            simp only [List.map_cons, List.flatten_cons, List.length_append, List.length_cons, h2, this, Nat.add_mul]
            omega
        rw [this l (fun i hi => (hp i hi).2.2.1), hlen]
    refine ⟨_, ⟨l.map (·.1), rfl, fun x hx => ?_, by simp [hlen]; omega⟩, RepA.single rfl ⟨some p, c, (l.map (·.2)).flatten, by simp [hlen], by simp [hlen]; omega, hm, (fun h => by cases h), rep_list _ _ (by simp) (fun i a b => ?_) h1, fun j y hj => ?_⟩⟩
    · obtain ⟨y, hy, rfl⟩ := List.mem_map.1 hx
      obtain ⟨i, hi', rfl⟩ := List.mem_iff_getElem.1 hy
      obtain ⟨h2, h3, h4, _⟩ := hp i hi'
      exact ⟨h2, by rw [← h3.length, h4]⟩
    · simp at a b
      obtain ⟨h2, h3, h4, _⟩ := hp i a
      simpa using ⟨h3, h4⟩
    · obtain ⟨b, o, e1, e2, e3⟩ := hs.rd j y hj
      exact ⟨b, o, e1, fun h => h.elim, e3⟩
def GCat : List (List D → Prop) → List D → Prop
  | [], ds => ds = []
  | G :: Gs, ds => ∃ a b, ds = a ++ b ∧ G a ∧ GCat Gs b
def laidFrom (P : Program) : Nat → List Field → Bool
  | _, [] => true
  | o, f :: fs => f.offset == o && laidFrom P (o + P.cellsOf f.type) fs
inductive OpnAll (P : Program) : List Field → List (List D → Prop) → Prop
  | nil : OpnAll P [] []
  | cons {f fs G Gs} : Opn P f.type G → OpnAll P fs Gs → OpnAll P (f :: fs) (G :: Gs)
theorem RepA.app {w : World} {M : Nat → Nat → Prop} : ∀ {a b : List D} {u v : List Value}, RepA w M a u → RepA w M b v → RepA w M (a ++ b) (u ++ v)
  | [], _, _, _, h, k => by simp only [RepA] at h; subst h; exact k
  | x :: a, b, u, v, h, k => by
    obtain ⟨y, r, rfl, h2, h3, h4⟩ := h
    exact ⟨y, r ++ v, rfl, h2, h3, h4.app k⟩
theorem opn_fields {P : Program} {H : Type} {enc : TypeId × Value → H} {w : World} {base : Nat} {spare : Nat → Bool} {held : Bool} {fuel : Nat} {cs : List Value} : ∀ {fs : List Field} {Gs : List (List D → Prop)} {o : Nat},
    OpnAll P fs Gs → laidFrom P o fs = true → (∀ f ∈ fs, ∃ x, DataW.trod enc P w base spare held fuel f.type ((cs.drop f.offset).take (P.cellsOf f.type)) = some x) →
    ∃ ds, GCat Gs ds ∧ RepA w NoM ds ((cs.drop o).take (fs.map fun f => P.cellsOf f.type).sum)
  | _, _, o, .nil, _, _ => ⟨[], rfl, by simp [RepA]⟩
  | _, _, o, .cons (f := f) (fs := fs) h hs, hl, hx => by
    simp only [laidFrom, Bool.and_eq_true, beq_iff_eq] at hl
    obtain ⟨x, h1⟩ := hx f (by simp)
    obtain ⟨ds, h2, h3⟩ := h H enc w base spare held fuel _ x h1
    obtain ⟨es, h4, h5⟩ := opn_fields (cs := cs) hs hl.2 (fun g hg => hx g (by simp [hg]))
    refine ⟨ds ++ es, ⟨ds, es, rfl, h2, h4⟩, ?_⟩
    rw [hl.1] at h3
    have := h3.app h5
    rw [List.map_cons, List.sum_cons, List.take_add, List.drop_drop]
    exact this
theorem opn_struct {P : Program} {t : TypeId} {fs : Array Field} {Gs : List (List D → Prop)} (ht : P.underlying t = some (.struct fs)) (hs : OpnAll P fs.toList Gs) (hl : laidFrom P 0 fs.toList = true) (hc : (fs.toList.map fun f => P.cellsOf f.type).sum = P.cellsOf t) :
    Opn P t (GCat Gs) := fun H enc w b s hd f cs x hx => by
  obtain ⟨ys, n, _, _, hlen, hys, hf⟩ := DataW.trod_struct ht hx
  obtain ⟨ds, h1, h2⟩ := opn_fields (cs := cs) (enc := enc) (w := w) (base := b) (spare := s) (held := hd) (fuel := n) hs hl (fun g hg => by
    obtain ⟨i, hi, rfl⟩ := List.mem_iff_getElem.1 hg
    have h3 := hf i fs[i] (by simp at hi; simp [hi])
    simp at hi
    exact ⟨ys[i], by simpa [hys, hi] using h3⟩)
  refine ⟨ds, h1, ?_⟩
  rw [hc, ← hlen] at h2
  simpa using h2
end Go.Proofs.YtcblefmjacofgaaGreatDoor
namespace Go.Proofs.YtcblefmjacofgaaGreatDoor
open Go.ChangeShapes Go.WideShapes Go.ChangeAt Go.RowKit
def laid3 : List (String × DataW Unit) := [("unicode.White_Space", Rows.laid_unicode_White_Space), ("strings.asciiSpace", Rows.laid_strings_asciiSpace), ("transputer/instr.functions", Rows.laid_transputer_instr_functions)]
set_option maxRecDepth 100000 in
theorem door_met (os : Os) (args : Array Value) : laidMetH Tryz.prog laid3 ((World.doorLaid Tryz.prog 38 os).forCall (fun _ _ => 0) ⟨#[], args, []⟩).memory :=
  laidMetH_of_parts3 (fuel := 8) (laidMet_of_run' 8 (by kernel_rfl) (by kernel_rfl)) (by kernel_rfl) (by kernel_rfl)
theorem arr_cells {H : Type} {enc : TypeId × Value → H} {P : Program} {w : World} {base : Nat} {spare : Nat → Bool} {held : Bool} {fuel : Nat} {t e : TypeId} {n : Nat} {cs : List Value} {ds : List (DataW H)} {p : List MemPlace} {vs : List Value}
    (ht : P.underlying t = some (.array n e)) (hc : P.cellsOf e = 1) (hct : P.cellsOf t = n) (h : DataW.trod enc P w base spare held fuel t cs = some (.agg ds, p)) (hl : vs.length = ds.length)
    (hel : ∀ (m : Nat) (c : List Value) (d : DataW H) (q : List MemPlace) (v : Value) (i : Nat), ds[i]? = some d → vs[i]? = some v → DataW.trod enc P w base spare held m e c = some (d, q) → c = [v]) : cs = vs := by
  obtain ⟨xs, m, rfl, hx, hlen, hxl, hat⟩ := DataW.trod_array ht h
  rw [Prod.mk.injEq, DataW.agg.injEq] at hx
  obtain ⟨rfl, _⟩ := hx
  rw [hct] at hlen
  rw [List.length_map, hxl] at hl
  apply List.ext_getElem (by omega)
  intro i h1 h2
  have h3 := hat i (by omega)
  rw [hc, Nat.mul_one, List.getElem?_eq_getElem (show i < xs.length by omega)] at h3
  have h4 := hel m _ xs[i].1 xs[i].2 vs[i] i (by rw [List.getElem?_map, List.getElem?_eq_getElem (show i < xs.length by omega)]; rfl) (List.getElem?_eq_getElem h2) h3
  have h5 := congrArg (fun l => l[0]?) h4
  simpa [List.getElem?_take, List.getElem?_drop, List.getElem?_eq_getElem h1] using h5
theorem glob_mk {W : World} {n : String} {g : Nat} {cs : Array Value} {ds : List D} {vs : List Value} (hg : Tryz.prog.globalNamed n = some g) (hv : W.var? Tryz.prog n = some cs) (hcs : cs.toList = vs) (hr : RepA W NoM ds vs) : GlobB W NoM g ds := by
  unfold World.var? at hv
  rw [hg] at hv
  simp only [Option.bind_some] at hv
  split at hv
  · rename_i c t f hh
    cases hv
    refine ⟨vs, t, f, ?_, fun _ h => h, hr⟩
    rw [hh, ← hcs]
  · cases hv
theorem rep_ints (w : World) (M : Nat → Nat → Prop) (k : IntKind) : ∀ l : List Int, RepA w M (l.map fun z => D.int k z) (l.map fun z => Value.int k z)
  | [] => rfl
  | x :: l => ⟨_, _, rfl, rfl, rfl, rep_ints w M k l⟩
theorem rep_strs (w : World) (M : Nat → Nat → Prop) : ∀ l : List (List UInt8), RepA w M (l.map fun s => D.str ⟨s.toArray⟩) (l.map fun s => Value.string ⟨s.toArray⟩)
  | [] => rfl
  | x :: l => ⟨_, _, rfl, rfl, rfl, rep_strs w M l⟩
theorem ascii_datum : (Rows.laid_strings_asciiSpace : DataW Unit) = .agg (Lib.asciiSpaceTab.map fun z => .lit (.int .u8 z)) := by kernel_rfl
theorem funcs_datum : (Rows.laid_transputer_instr_functions : DataW Unit) = .agg (I.fns.map fun s => .lit (.string s)) := by kernel_rfl
set_option maxRecDepth 100000 in
theorem glob_of_laid {W : World} (h : laidMetH Tryz.prog laid3 W) : Globs glT W NoM := by
  rw [MakeChecks.laidMetH_plain _ _ _ (by kernel_rfl)] at h
  obtain ⟨ps, ⟨g0, t0, cs0, f0, p0, q0, hg0, ht0, hv0, hd0, ⟨g1, t1, cs1, f1, p1, q1, hg1, ht1, hv1, hd1, ⟨g2, t2, cs2, f2, p2, q2, hg2, ht2, hv2, hd2, _, _⟩, _⟩, _⟩, _, _⟩ := h
  obtain rfl := Option.some.inj ((show Tryz.prog.globalNamed "strings.asciiSpace" = some 1 by kernel_rfl).symm.trans hg1)
  obtain rfl := Option.some.inj ((show Tryz.prog.globalNamed "transputer/instr.functions" = some 0 by kernel_rfl).symm.trans hg2)
  obtain rfl := Option.some.inj ((show (Tryz.prog.globals[1]?).map (·.type) = some 163 by kernel_rfl).symm.trans ht1)
  obtain rfl := Option.some.inj ((show (Tryz.prog.globals[0]?).map (·.type) = some 154 by kernel_rfl).symm.trans ht2)
  rw [ascii_datum] at hd1
  rw [funcs_datum] at hd2
  have e1 := arr_cells (vs := Lib.asciiSpaceTab.map fun z => Value.int .u8 z) Tryz.underlying163 (by kernel_rfl) (by kernel_rfl) hd1 (by simp) (fun m c d q v i h1 h2 h3 => by
    obtain ⟨n, rfl, h4, _⟩ := DataW.trod_int Tryz.underlying5 h3
    rw [List.getElem?_map] at h1 h2
    obtain ⟨z, h5, rfl⟩ := Option.map_eq_some_iff.1 h1
    rw [h5] at h2
    cases h2
    cases h4
    rfl)
  have e2 := arr_cells (vs := I.fns.map fun s => Value.string ⟨s.toArray⟩) Tryz.underlying154 (by kernel_rfl) (by kernel_rfl) hd2 (by simp) (fun m c d q v i h1 h2 h3 => by
    obtain ⟨n, rfl, h4, _⟩ := DataW.trod_string Tryz.underlying9 h3
    rw [List.getElem?_map] at h1 h2
    obtain ⟨z, h5, rfl⟩ := Option.map_eq_some_iff.1 h1
    rw [h5] at h2
    cases h2
    simp only [Prod.mk.injEq, DataW.lit.injEq, Lit.string.injEq] at h4
    obtain ⟨rfl, _⟩ := h4
    cases n
    simp)
  intro g cs hl
  unfold glT at hl
  simp only [look] at hl
  cases k1 : Nat.beq 0 g with
  | true =>
    rw [k1] at hl
    cases hl
    obtain rfl := Nat.eq_of_beq_eq_true k1
    exact glob_mk hg2 hv2 e2 (rep_strs _ _ _)
  | false =>
    rw [k1] at hl
    cases k2 : Nat.beq 1 g with
    | true =>
      rw [k2] at hl
      cases hl
      obtain rfl := Nat.eq_of_beq_eq_true k2
      exact glob_mk hg1 hv1 e1 (rep_ints _ _ _ _)
    | false =>
      rw [k2] at hl
      cases hl
end Go.Proofs.YtcblefmjacofgaaGreatDoor
namespace Go.Proofs.YtcblefmjacofgaaGreatDoor
set_option maxRecDepth 100000
open Go.ChangeShapes Go.WideShapes Go.ChangeAt Go.RowKit
theorem opn_bytes : Opn Tryz.prog 30 (fun ds => ∃ l : List UInt8, ds = [dBytes l]) :=
  (opn_slice true 1 Tryz.underlying30 (by kernel_rfl) (fun _ => rfl) (opn_int Tryz.underlying5)).mono fun ds ⟨xs, e, h, _⟩ => by
    have : ∀ xs : List (List D), (∀ x ∈ xs, (∃ n, x = [.int .u8 n] ∧ (Lit.int .u8 n).wf = true) ∧ x.length = 1) → ∃ l : List UInt8, xs.map (datOf true) = l.map dByte := by
      intro xs
      induction xs with
      | nil => intro _; exact ⟨[], rfl⟩
      | cons x xs ih =>
        intro h
        obtain ⟨⟨n, rfl, hw⟩, _⟩ := h x (by simp)
        obtain ⟨l, hl⟩ := ih (fun y hy => h y (by simp [hy]))
        have hb : 0 ≤ n ∧ n ≤ 255 := by simpa [Lit.wf, IntKind.min, IntKind.max, IntKind.signed, IntKind.bits] using hw
        refine ⟨UInt8.ofNat n.toNat :: l, ?_⟩
        rw [List.map_cons, List.map_cons, hl]
        congr 1
        simp only [datOf, dByte, UInt8.toNat_ofNat']
        congr 1
        omega
    obtain ⟨l, hl⟩ := this xs h
    exact ⟨l, by rw [e, hl]; rfl⟩
theorem opn_obj : Opn Tryz.prog 38 (fun ds => ∃ o : Im.Obj, .agg ds = dObj o) :=
  (opn_struct (Gs := [_, _, _, _]) Tryz.underlying38 (.cons opn_bytes (.cons (opn_int Tryz.underlying3) (.cons (opn_int Tryz.underlying3) (.cons (opn_int Tryz.underlying3) .nil)))) (by kernel_rfl) (by kernel_rfl)).mono fun ds h => by
    obtain ⟨_, _, rfl, ⟨l, rfl⟩, _, _, rfl, ⟨x, rfl, _⟩, _, _, rfl, ⟨y, rfl, _⟩, _, _, rfl, ⟨z, rfl, _⟩, rfl⟩ := h
    exact ⟨⟨l, x, y, z⟩, rfl⟩
theorem list_of {α : Type} {G : List D → Prop} {f : α → D} {sz : Nat} (hf : ∀ ds, G ds → ∃ a, .agg ds = f a) : ∀ xs : List (List D), (∀ x ∈ xs, G x ∧ x.length = sz) → ∃ l : List α, xs.map (datOf false) = l.map f
  | [], _ => ⟨[], rfl⟩
  | x :: xs, h => by
    obtain ⟨a, ha⟩ := hf x (h x (by simp)).1
    obtain ⟨l, hl⟩ := list_of hf xs (fun y hy => h y (by simp [hy]))
    exact ⟨a :: l, by rw [List.map_cons, List.map_cons, hl, ← ha]; rfl⟩
theorem opn_objs : Opn Tryz.prog 27 (fun ds => ∃ l : List Im.Obj, ds = [.list 4 (l.map dObj)]) :=
  (opn_slice false 4 Tryz.underlying27 (by kernel_rfl) (fun h => by cases h) opn_obj).mono fun ds ⟨xs, e, h, _⟩ => by
    obtain ⟨l, hl⟩ := list_of (fun _ h => h) xs h
    exact ⟨l, by rw [e, hl]⟩
theorem opn_port : Opn Tryz.prog 24 (fun ds => ∃ p : To.Port, ds = [.int .i64 p.node, .int .i64 p.link]) :=
  (opn_struct (Gs := [_, _]) Tryz.underlying24 (.cons (opn_int Tryz.underlying3) (.cons (opn_int Tryz.underlying3) .nil)) (by kernel_rfl) (by kernel_rfl)).mono fun ds h => by
    obtain ⟨_, _, rfl, ⟨x, rfl, _⟩, _, _, rfl, ⟨y, rfl, _⟩, rfl⟩ := h
    exact ⟨⟨x, y⟩, rfl⟩
theorem opn_wire : Opn Tryz.prog 107 (fun ds => ∃ p : To.Wire, .agg ds = dWire p) :=
  (opn_struct (Gs := [_, _]) Tryz.underlying107 (.cons opn_port (.cons opn_port .nil)) (by kernel_rfl) (by kernel_rfl)).mono fun ds h => by
    obtain ⟨_, _, rfl, ⟨x, rfl⟩, _, _, rfl, ⟨y, rfl⟩, rfl⟩ := h
    exact ⟨⟨x, y⟩, rfl⟩
theorem opn_wires : Opn Tryz.prog 22 (fun ds => ∃ l : List To.Wire, ds = [.list 4 (l.map dWire)]) :=
  (opn_slice false 4 Tryz.underlying22 (by kernel_rfl) (fun h => by cases h) opn_wire).mono fun ds ⟨xs, e, h, _⟩ => by
    obtain ⟨l, hl⟩ := list_of (fun _ h => h) xs h
    exact ⟨l, by rw [e, hl]⟩
theorem opn_topo : Opn Tryz.prog 26 (fun ds => ∃ t : To.Topo, .agg ds = dTopo t) :=
  (opn_struct (Gs := [_, _, _]) Tryz.underlying26 (.cons (opn_int Tryz.underlying3) (.cons opn_wires (.cons opn_port .nil))) (by kernel_rfl) (by kernel_rfl)).mono fun ds h => by
    obtain ⟨_, _, rfl, ⟨x, rfl, _⟩, _, _, rfl, ⟨l, rfl⟩, _, _, rfl, ⟨p, rfl⟩, rfl⟩ := h
    exact ⟨⟨x, l, p⟩, rfl⟩
theorem agg_arg {H : Type} {enc : TypeId × Value → H} {w : World} {v : Value} {d : DataW H} {ps : List MemPlace} {t : TypeId} {fs : Array Field} {G : List D → Prop} {b0 : Nat} {sp : Nat → Bool} {hd : Bool} (ht : Tryz.prog.underlying t = some (.struct fs)) (ho : Opn Tryz.prog t G)
    (hv : Value.okWide Tryz.prog w .any b0 t v) (h : DataW.Trod enc Tryz.prog w 0 sp hd t v d ps) : ∃ ds, G ds ∧ RepD w NoM (.agg ds) v := by
  unfold Value.okWide at hv
  rw [ht] at hv
  obtain ⟨cs, rfl, _, _⟩ := hv
  obtain ⟨f, hf⟩ := h
  obtain ⟨ds, h1, h2⟩ := ho _ _ _ _ _ _ _ _ _ hf
  exact ⟨ds, h1, cs.toList, by simp, by simpa [Value.cells] using h2⟩
theorem one_arg {H : Type} {enc : TypeId × Value → H} {w : World} {d : DataW H} {ps : List MemPlace} {t : TypeId} {G : List D → Prop} {sp : Nat → Bool} {hd : Bool} {a : Option Addr} {l c : Nat} (ho : Opn Tryz.prog t G) (h : DataW.Trod enc Tryz.prog w 0 sp hd t (.slice a l c) d ps) :
    ∃ ds, G ds ∧ RepA w NoM ds [.slice a l c] := by
  obtain ⟨f, hf⟩ := h
  exact ho _ _ _ _ _ _ _ _ _ (by simpa [Value.cells] using hf)
theorem RepA.one' {w : World} {M : Nat → Nat → Prop} {x : D} {v : Value} (h : RepA w M [x] [v]) : RepD w M x v := by
  obtain ⟨_, _, e, _, h3, _⟩ := h
  simp at e
  rw [e.1]
  exact h3
end Go.Proofs.YtcblefmjacofgaaGreatDoor
namespace Go.Proofs.YtcblefmjacofgaaGreatDoor
set_option maxRecDepth 100000
open Go.ChangeShapes Go.WideShapes Go.ChangeAt Go.RowKit
theorem own_knob : ownKnob Tryz.prog.godebug = none := by kernel_rfl
theorem laid_out : laidOutB Tryz.prog = true := by kernel_rfl
theorem sl_arg {H : Type} {enc : TypeId × Value → H} {w : World} {v : Value} {d : DataW H} {ps : List MemPlace} {t e : TypeId} {G : List D → Prop} {b0 : Nat} {sp : Nat → Bool} {hd : Bool} (ht : Tryz.prog.underlying t = some (.slice e)) (ho : Opn Tryz.prog t G)
    (hv : Value.okWide Tryz.prog w .any b0 t v) (h : DataW.Trod enc Tryz.prog w 0 sp hd t v d ps) : ∃ ds, G ds ∧ RepA w NoM ds [v] := by
  obtain ⟨a, l, c, rfl⟩ := okWide_slice ht hv
  exact one_arg ho h
end Go.Proofs.YtcblefmjacofgaaGreatDoor
