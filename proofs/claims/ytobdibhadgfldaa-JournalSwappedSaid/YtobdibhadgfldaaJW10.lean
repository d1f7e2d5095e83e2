/- The walk of journal's Whole. -/
import Derived.Test.YtobdibhadgfldaaJW9
import Derived.Sort.CutIn
import Derived.WalkMore
import Derived.Test.YtobdibhadgfldaaTree
namespace Go.Proofs.Ytobdibhadgfldaa
open Go.RowKit Go.Shelf
attribute [local go_sem] Oper.semAt_some

theorem records_any (a : Option Addr) (n c : Nat) (w : World) :
    Calls Try.prog 26 #[.slice a n c] w fun e w' => e = .returned (.func (.func 35) #[] #[.pointer (some ⟨w.heap.size, 0, none⟩)]) ∧ w' = w.alloc (.cells #[.slice a n c] 22) := by
  go_enter Try.func26, Try.ntmps26
  go_wp2
  go_ret
  exact ⟨rfl, rfl⟩

/-- Only a normal end. -/
def onlyNormal (Q : Exit → Act → World → Prop) : Exit → Act → World → Prop
  | .normal, a, w => Q .normal a w
  | _, _, _ => False
theorem onlyNormal_up {Q : Exit → Act → World → Prop} {e : Exit} {a : Act} {w : World} (h : onlyNormal Q e a w) : Q e a w := by
  cases e <;> first | exact h | exact h.elim
theorem wp_region_mixN {P : Program} {ops : Array Oper} {Q : Exit → Act → World → Prop} {id : Nat} {a : Act} {w : World} (bars : List Nat) (plan : List (Nat × Way)) (hm : P.follows .mixedOrders = true) (hs : Region.noSelect ops = true) (hl : plan.length = ops.size)
    (hB : mixOk .any ops bars (Array.replicate ops.size false) plan = true) (h : wpMix P ops (onlyNormal Q) (planOps ops plan) a w) : (Code.region id ops true).wp P Q a w :=
  wp_mono (wp_region_mix (Q := onlyNormal Q) bars plan hm hs hl hB (fun _ _ _ _ _ h => h.elim) h) fun _ _ _ h => onlyNormal_up h

theorem wpIn_region_treeN {P : Program} {ops : Array Oper} {Q : Exit → Act → World → Prop} {id : Nat} {a : Act} {w : World} {l n : Nat} (bars : List Nat) (t : Tree) (hm : P.follows .mixedOrders = true) (hs : Region.noSelect ops = true) (hd : noDefer ops = true) (hl : t.depth ≤ ops.size)
    (hB : treeOk .any ops bars (Array.replicate ops.size false) t = true) (h : wpTree P ops (onlyNormal Q) (treeOps ops t) a w) : (Code.region id ops true).wpIn (Fence.wide.inRound l) n P Q a w :=
  wpIn_mono (wpIn_region_tree (Q := onlyNormal Q) bars t hm hs hd hl hB (fun _ _ _ _ _ h => h.elim) h) fun _ _ _ h => onlyNormal_up h

/-- append onto a slice of the call's own, in a round. -/
theorem app_ownIn {F : Fence} {rm : Nat} {P : Program} {w : World} {ops : Array Oper} {rest : List Oper} {o : Oper} {a : Act} {Q : Exit → Act → World → Prop} (hgd : o.guard = none) (s x : Operand) (t : TypeId)
    (ho : o.op = .call { callee := .builtin .append, args := #[s, x], argTypes := #[t, t] })
    {e : TypeId} {size bytes : Nat} (he : Elem P t e size bytes)
    {base : Nat} {va : Option Addr} {n c : Nat} {xs : List Value} (hs : a.eval s = .slice va n c) (hown : w.ownsRow base e size (.slice va n c) n xs)
    {B : Nat} {ad : Addr} {m xc : Nat} {news : List Value} (hx : a.eval x = .slice (some ad) m xc) (hsl : Sl w B (some ad) m xc size news) (h1 : ∀ u ∈ news, u.oneCell' = true)
    (h63 : n + m ≤ 1000000000000) (hby : bytes ≤ 128) (hbase : base ≤ w.heap.size)
    (h : ∀ a' c' w', w'.ownsRow base e size (.slice a' (n + m) c') (n + m) (xs ++ news) → w.grownBy w' (Value.slice va n c).ownBlock → wpListIn F rm P ops Q rest (a.put o.dst (.slice a' (n + m) c')) w') :
    wpListIn F rm P ops Q (o :: rest) a w := by
  obtain ⟨i, z, ht, hi, hz, hsize, hbytes, hzs, hpos⟩ := he
  have hbound : (n + m) * bytes ≤ 140737488355328 := Nat.le_trans (Nat.mul_le_mul h63 hby) (by omega)
  refine wpListIn_append_own w hgd s x t ho base e i z size bytes ht hi hz hsize hbytes hzs hpos _ n xs hs hown ad m xc news hx hsl.len ?_ h1 (by unfold maxLen; omega) hbound hbase ?_
  · intro j u hu
    obtain ⟨b, o', e', _, hc⟩ := hsl.rd j u hu
    cases e'
    have ha : (⟨b, o', none⟩ : Addr).add j = ⟨b, o' + j, none⟩ := by unfold Addr.add; split <;> simp_all
    rw [ha]
    exact hc
  · intro v' w' hown' hg _
    obtain ⟨a', c', rfl, _⟩ := owns_shape hown'
    exact h a' c' w' hown' hg

/-- Nothing turns but two boxes. -/
structure Two (n0 s1 s2 : Nat) (A B : World) : Prop where
  below : Below n0 A B
  same : ∀ k, k < A.heap.size → k ≠ s1 → k ≠ s2 → B.heap[k]? = A.heap[k]?
theorem Two.trans {n0 s1 s2 : Nat} {A B C : World} (h : Two n0 s1 s2 A B) (k : Two n0 s1 s2 B C) : Two n0 s1 s2 A C :=
  ⟨h.below.trans k.below, fun j hj h1 h2 => (k.same j (Nat.lt_of_lt_of_le hj h.below.size) h1 h2).trans (h.same j hj h1 h2)⟩
theorem Two.grow {n0 s1 s2 : Nat} {A B : World} (hz : n0 ≤ A.heap.size) (h : Grows A B) : Two n0 s1 s2 A B := ⟨Below.mono h hz, fun k hk _ _ => h.block k hk⟩
theorem Two.set1 {n0 s1 s2 : Nat} {A : World} (h : n0 ≤ s1) (v : Value) : Two n0 s1 s2 A (A.setCell ⟨s1, 0, none⟩ v) :=
  ⟨(Below.refl _ _).setCell (p := ⟨s1, 0, none⟩) h v, fun k _ h1 _ => Below.heap_setCell A ⟨s1, 0, none⟩ v k h1⟩
theorem Two.set2 {n0 s1 s2 : Nat} {A : World} (h : n0 ≤ s2) (v : Value) : Two n0 s1 s2 A (A.setCell ⟨s2, 0, none⟩ v) :=
  ⟨(Below.refl _ _).setCell (p := ⟨s2, 0, none⟩) h v, fun k _ _ h2 => Below.heap_setCell A ⟨s2, 0, none⟩ v k h2⟩

theorem Two.cell {n0 s1 s2 : Nat} {A B : World} (h : Two n0 s1 s2 A B) {p : Addr} (hp : p.block < A.heap.size) (h1 : p.block ≠ s1) (h2 : p.block ≠ s2) : B.cell? p = A.cell? p := by
  unfold World.cell?
  rw [h.same _ hp h1 h2]
theorem owns_two {n0 s1 s2 : Nat} {A B : World} (h : Two n0 s1 s2 A B) {t1 t2 e : TypeId} {u1 u2 : Value} (b1 : Boxed A s1 t1 u1) (b2 : Boxed A s2 t2 u2) (h1 : t1 ≠ e) (h2 : t2 ≠ e) {base size k : Nat} {v : Value} {xs : List Value}
    (hr : A.ownsRow base e size v k xs) : B.ownsRow base e size v k xs := by
  have n1 := b1.not_row h1 hr
  have n2 := b2.not_row h2 hr
  refine ⟨hr.1, ?_⟩
  rcases hr.2 with h0 | ⟨g, cap, cur, rfl, hg, hh, r⟩
  · exact .inl h0
  · refine .inr ⟨g, cap, cur, rfl, hg, ?_, r⟩
    rw [h.same g (Array.getElem?_eq_some_iff.1 hh).1 (fun e => n1 (by simp [Value.ownBlock, e])) (fun e => n2 (by simp [Value.ownBlock, e]))]
    exact hh

theorem boxed_put {W : World} {B : Nat} {t : TypeId} {v : Value} (h : Boxed W B t v) {l : Nat} {o : Obj} (o' : Obj) (hl : W.heap[l]? = some o) (ho : o.isCells = false) : Boxed (W.putObj l o') B t v :=
  h.kept (grownBy_putObj' W l o') (fun e => by
    obtain rfl : B = l := by simpa using e
    rw [show W.heap[B]? = _ from h] at hl
    cases hl
    cases ho)
theorem boxed_far {W : World} {B : Nat} {t : TypeId} {v : Value} (h : Boxed W B t v) {p : Addr} (v' : Value) (hp : B ≠ p.block) : Boxed (W.setCell p v') B t v := (Below.heap_setCell W p v' B hp).trans h
theorem boxed_down {W W' : World} {B n : Nat} {t : TypeId} {v : Value} (h : Boxed W B t v) (hb : Below n W W') (hn : B < n) : Boxed W' B t v := (hb.block B hn).trans h
theorem owns_far {W : World} {B : Nat} {t e : TypeId} {u : Value} (h : Boxed W B t u) (hte : t ≠ e) {base size k : Nat} {v : Value} {xs : List Value} (hr : W.ownsRow base e size v k xs) (x : Value) :
    (W.setCell ⟨B, 0, none⟩ x).ownsRow base e size v k xs := hr.kept (grownBy_setCell' W B x) (.inr (h.not_row hte hr).symm)

/-- Between two rounds. -/
structure WAt (b : List UInt8) (w : World) (s1 s2 s3 k : Nat) (m : List J.Act) (va : Option Addr) (vc : Nat) (W : World) : Prop where
  len : k = m.length
  bl : Boxed W w.heap.size 24 (.slice va k vc)
  bs : Boxed W s1 40 (.int .u32 (J.sums 0 m : Nat))
  bt : Boxed W s2 21 (.int .i32 (J.lastT 0 m))
  bn : ∃ x, Boxed W s3 22 x
  own : W.ownsRow w.heap.size 44 5 (.slice va k vc) k (avs m)
  spec : J.wholes b = m ++ J.whole (b.length + 1 - k) (J.sums 0 m) (J.lastT 0 m) (b.drop (18 * k))
  below : Below w.heap.size w W

/-- A round has left. -/
structure WOut (b : List UInt8) (w : World) (k : Nat) (m : List J.Act) (va : Option Addr) (vc : Nat) (W : World) : Prop where
  len : k = m.length
  bl : Boxed W w.heap.size 24 (.slice va k vc)
  own : W.ownsRow w.heap.size 44 5 (.slice va k vc) k (avs m)
  spec : J.wholes b = m
  below : Below w.heap.size w W

theorem WAt.put {b : List UInt8} {w : World} {s1 s2 s3 k : Nat} {m : List J.Act} {va : Option Addr} {vc : Nat} {W : World} (h : WAt b w s1 s2 s3 k m va vc W) {l : Nat} {o : Obj} (o' : Obj) (hw : w.heap.size ≤ l) (hl : W.heap[l]? = some o) (ho : o.isCells = false) : WAt b w s1 s2 s3 k m va vc (W.putObj l o') :=
  ⟨h.len, boxed_put h.bl o' hl ho, boxed_put h.bs o' hl ho, boxed_put h.bt o' hl ho, h.bn.elim fun x hx => ⟨x, boxed_put hx o' hl ho⟩, ownsRow_putObj h.own o' hl ho, h.spec,
    h.below.grown (grownBy_putObj' W l o') (Nat.le_trans (Nat.le_refl _) h.below.size) (fun k e => by cases e; exact hw)⟩
theorem WOut.put {b : List UInt8} {w : World} {k : Nat} {m : List J.Act} {va : Option Addr} {vc : Nat} {W : World} (h : WOut b w k m va vc W) {l : Nat} {o : Obj} (o' : Obj) (hw : w.heap.size ≤ l) (hl : W.heap[l]? = some o) (ho : o.isCells = false) : WOut b w k m va vc (W.putObj l o') :=
  ⟨h.len, boxed_put h.bl o' hl ho, ownsRow_putObj h.own o' hl ho, h.spec,
    h.below.grown (grownBy_putObj' W l o') (Nat.le_trans (Nat.le_refl _) h.below.size) (fun k e => by cases e; exact hw)⟩
theorem WAt.box {b : List UInt8} {w : World} {s1 s2 s3 k : Nat} {m : List J.Act} {va : Option Addr} {vc : Nat} {W : World} (h : WAt b w s1 s2 s3 k m va vc W) (v : Value) (h0 : w.heap.size < s1) (h1 : s1 < s2) (h2 : s2 < s3) : WAt b w s1 s2 s3 k m va vc (W.setCell ⟨s3, 0, none⟩ v) :=
  ⟨h.len, boxed_far h.bl v (by show _ ≠ s3; omega), boxed_far h.bs v (by show _ ≠ s3; omega), boxed_far h.bt v (by show _ ≠ s3; omega), h.bn.elim fun x hx => ⟨v, hx.set v⟩,
    h.bn.elim fun x hx => owns_far hx (by decide) h.own v, h.spec, h.below.setCell (p := ⟨s3, 0, none⟩) (by show w.heap.size ≤ s3; omega) v⟩

set_option maxHeartbeats 1000000 in
set_option maxRecDepth 100000 in
theorem Whole_any (a : Option Addr) (c : Nat) (b : List UInt8) (hl : b.length ≤ 8000000) (w : World) (hs : Sl w w.heap.size a b.length c 1 (b.map bv)) :
    Calls Try.prog 14 #[.slice a b.length c] w (WholeOf b w) := by
  refine (callsIn_wide (n := 5)).1 ?_
  refine callsIn_of_wp_marks Try.func14 rfl trivial ?_ rfl
  simp only [Try.ntmps14, List.size_toArray, List.length_cons, List.length_nil, Nat.reduceAdd, Nat.reduceSub, Array.replicate_succ, Array.replicate_zero, List.push_toArray, List.append_toArray, List.nil_append, List.cons_append]
  gi_wp2
  refine wpIn_wide.2 (wp_scope_straight ((wpIn_wide (n := 5)).1 ?_))
  gi_wp2
  apply wpIn_label
  gi_wp2_with (refine ⟨trivial, ?_⟩; gi_at_call 26; refine (callsIn_wide.2 (records_any _ _ _ _)).mono ?_; rintro e w' ⟨rfl, rfl⟩)
  obtain ⟨W0, hW0⟩ : ∃ W0, ((((w.alloc (Obj.cells #[Value.slice none 0 0] 24)).alloc (Obj.cells #[Value.int IntKind.u32 0] 40)).alloc (Obj.cells #[Value.int IntKind.i32 0] 21)).alloc (Obj.cells #[Value.slice a b.length c] 22)) = W0 := ⟨_, rfl⟩
  obtain ⟨s1, hs1⟩ : ∃ s1, w.heap.size + 1 = s1 := ⟨_, rfl⟩
  obtain ⟨s2, hs2⟩ : ∃ s2, s1 + 1 = s2 := ⟨_, rfl⟩
  obtain ⟨s3, hs3⟩ : ∃ s3, s2 + 1 = s3 := ⟨_, rfl⟩
  rw [hW0, hs1, hs2, hs3]
  have b0 : Boxed W0 w.heap.size 24 (.slice none 0 0) := by rw [← hW0]; exact (((Boxed.new w _ _).alloc _).alloc _).alloc _
  have b1 : Boxed W0 s1 40 (.int .u32 0) := by
    have := (((Boxed.new (w.alloc (Obj.cells #[Value.slice none 0 0] 24)) 40 (.int .u32 0)).alloc (Obj.cells #[Value.int IntKind.i32 0] 21)).alloc (Obj.cells #[Value.slice a b.length c] 22))
    rw [hW0, World.size_alloc, hs1] at this
    exact this
  have b2 : Boxed W0 s2 21 (.int .i32 0) := by
    have := ((Boxed.new ((w.alloc (Obj.cells #[Value.slice none 0 0] 24)).alloc (Obj.cells #[Value.int IntKind.u32 0] 40)) 21 (.int .i32 0)).alloc (Obj.cells #[Value.slice a b.length c] 22))
    rw [hW0, World.size_alloc, World.size_alloc, hs1, hs2] at this
    exact this
  have b3 : Boxed W0 s3 22 (.slice a b.length c) := by
    have := (Boxed.new (((w.alloc (Obj.cells #[Value.slice none 0 0] 24)).alloc (Obj.cells #[Value.int IntKind.u32 0] 40)).alloc (Obj.cells #[Value.int IntKind.i32 0] 21)) 22 (.slice a b.length c))
    rw [hW0, World.size_alloc, World.size_alloc, World.size_alloc, hs1, hs2, hs3] at this
    exact this
  have hb0 : Below w.heap.size w W0 := by
    rw [← hW0]
    exact ((((Below.refl _ w).alloc (Nat.le_refl _) _).alloc (by simp) _).alloc (by simp; omega) _).alloc (by simp; omega) _
  have l1 : w.heap.size < s1 := by omega
  have l2 : s1 < s2 := by omega
  have l3 : s2 < s3 := by omega
  have hz0 : w.heap.size ≤ W0.heap.size := hb0.size
  have l4 : s3 < W0.heap.size := b3.lt
  clear hW0 hs1 hs2 hs3
  obtain ⟨bb, o, hbo⟩ : ∃ bb o, 18 ≤ b.length → a = some ⟨bb, o, none⟩ := by
    by_cases h18 : 18 ≤ b.length
    · obtain ⟨bb, o, h, _⟩ := hs.at (by omega)
      exact ⟨bb, o, fun _ => h⟩
    · exact ⟨0, 0, fun h => absurd h h18⟩
  refine wpIn_range_box (n := 5) rfl (by omega) (gf := 35) (lb := #[.pointer (some ⟨s3, 0, none⟩)]) rfl trivial (enters_of Try.func35 (by kernel_rfl) rfl)
    (p := ⟨s3, 0, none⟩) b3.cell (records_seq Fence.wide (5 - 1) trivial rfl (by omega) bb o b.length c s3 a W0 hbo hs.cap hs.max b3.cell b3.frozen) (fun _ => rfl)
    (fun k W => ∃ m va vc, WAt b w s1 s2 s3 k m va vc W) (fun cd k W => cd = .exit 0 ∧ ∃ m va vc, WOut b w k m va vc W)
    (fun k W l o o' h hB hl ho => by obtain ⟨m, va, vc, h⟩ := h; exact ⟨m, va, vc, h.put o' (Nat.le_trans hz0 hB) hl ho⟩)
    (fun cd k W l o o' h hB hl ho => by obtain ⟨hc, m, va, vc, h⟩ := h; exact ⟨hc, m, va, vc, h.put o' (Nat.le_trans hz0 hB) hl ho⟩)
    (fun k W v h => by obtain ⟨m, va, vc, h⟩ := h; exact ⟨m, va, vc, h.box v l1 l2 l3⟩)
    (fun k W h => by obtain ⟨m, va, vc, h⟩ := h; obtain ⟨x, hx⟩ := h.bn; exact ⟨x, hx.cell⟩)
    (fun o o' => ⟨[], none, 0, rfl, (b0.alloc _).alloc _, (b1.alloc _).alloc _, (b2.alloc _).alloc _, ⟨_, (b3.alloc _).alloc _⟩, World.ownsRow_nil _ _ _ _, by simp [J.wholes, J.sums, J.lastT], (hb0.alloc hz0 _).alloc (by simp; omega) _⟩)
    (fun k => { tmps := #[Value.slice a b.length c, undef, Value.slice none 0 0, Value.int IntKind.i64 0, Value.pointer (some ⟨w.heap.size, 0, none⟩), Value.pointer (some ⟨s1, 0, none⟩), Value.pointer (some ⟨s2, 0, none⟩), Value.slice (some ⟨bb, o + 18 * k, none⟩) 18 (c - 18 * k), undef, Value.slice a b.length c,
      Value.func (Fn.func 35) #[] #[Value.pointer (some ⟨s3, 0, none⟩)], Value.slice (some ⟨bb, o + 18 * k, none⟩) 18 (c - 18 * k), undef, undef, undef, undef, undef, undef, undef, undef, undef, undef, undef, undef, undef, undef, undef, undef, undef, undef, undef, undef, undef, undef, undef, undef, undef, undef, undef, undef, undef, undef, undef, undef, undef, undef, undef, undef, undef, undef, undef, undef, undef, undef, undef, undef, undef, undef, undef, undef, undef, undef, undef, undef, undef, undef, undef], defers := [] })
    ?assign ?body ?done ?stop
  case assign =>
    intro l k W K hK
    gi_wp2
    exact hK
  case done =>
    rintro D W hD ⟨m, va, vc, h⟩ hK
    have hw : J.wholes b = m := by
      have h1 := h.spec
      rw [J.whole_short (by rw [List.length_drop]; omega), List.append_nil] at h1
      exact h1
    have hc0 := h.bl.cell
    have hn0 : b.length / 18 = (J.wholes b).length := by rw [hw]; exact h.len
    have hN : b.length / 18 ≤ 450000 := by omega
    have HW := Lib.hid hw
    have HN := Lib.hid hn0
    clear hw hn0
    generalize b.length / 18 = n at *
    have hco := late_cell hc0
    have hmul : IntKind.i64.wrap (18 * (n : Int)) = 18 * (n : Int) := IntWalk.i64_in _ (by omega)
    have hKD := Lib.hid hK
    have hown := h.own
    have hbel := h.below
    clear hc0 hK h
    gi_wp2
    refine wpIn_wide.2 (wp_region_mixN [] [(0, .quiet), (1, .quiet), (2, .quiet), (3, .quiet), (4, .quiet), (5, .quiet)] (by kernel_rfl) (by kernel_rfl) (by kernel_rfl) (by kernel_rfl) ?_)
    simp only [planOps, List.getElem?_toArray, List.getElem?_cons_zero, List.getElem?_cons_succ]
    repeat ((with_reducible refine mix_quiet (fun K hK => ?_)); go_simp; refine hK _ ?_; clear hK K)
    with_reducible refine mix_nil (fun lt => ?_)
    dsimp only [onlyNormal]
    have hK' : lt.w.heap[D]? = some (.deferred (some [])) := (lt.grows.block D (Array.getElem?_eq_some_iff.1 hKD.out).1).trans hKD.out
    have hown' := owns_later hown lt.grows (Nat.le_refl _)
    have hbel' := hbel.trans (Below.mono lt.grows hbel.size)
    clear hown hbel
    generalize lt.w = W9 at *
    clear lt
    gi_wp2
    rw [Exit.noGoto_ret]
    refine ⟨by simp, .inl ⟨_, _, rfl, run_takeDeferred hK', ?_⟩⟩
    refine ⟨_, results_tmp2 rfl _ _ _, ?_⟩
    refine ⟨va, vc, ?_, ?_, hbel'.grown (grownBy_putObj' W9 D _) (Nat.le_trans (Nat.le_refl _) hbel'.size) (fun k e => by cases e; omega)⟩
    · rw [← HN.out]; rfl
    · rw [← HN.out, HW.out]; exact Sl.of_owns (ownsRow_putObj hown' _ hK' rfl)
  case stop =>
    rintro D cd k W hD hk ⟨rfl, m, va, vc, h⟩ hK
    have hc0 := h.bl.cell
    have HW := Lib.hid h.spec
    have HN := Lib.hid (show k = (J.wholes b).length by rw [h.spec]; exact h.len)
    have hN : k ≤ 450000 := by omega
    clear hk
    generalize k = n at *
    have hco := late_cell hc0
    have hmul : IntKind.i64.wrap (18 * (n : Int)) = 18 * (n : Int) := IntWalk.i64_in _ (by omega)
    have hKD := Lib.hid hK
    have hown := h.own
    have hbel := h.below
    clear hc0 hK h
    gi_wp2
    refine wpIn_wide.2 (wp_region_mixN [] [(0, .quiet), (1, .quiet), (2, .quiet), (3, .quiet), (4, .quiet), (5, .quiet)] (by kernel_rfl) (by kernel_rfl) (by kernel_rfl) (by kernel_rfl) ?_)
    simp only [planOps, List.getElem?_toArray, List.getElem?_cons_zero, List.getElem?_cons_succ]
    repeat ((with_reducible refine mix_quiet (fun K hK => ?_)); go_simp; refine hK _ ?_; clear hK K)
    with_reducible refine mix_nil (fun lt => ?_)
    dsimp only [onlyNormal]
    have hK' : lt.w.heap[D]? = some (.deferred (some [])) := (lt.grows.block D (Array.getElem?_eq_some_iff.1 hKD.out).1).trans hKD.out
    have hown' := owns_later hown lt.grows (Nat.le_refl _)
    have hbel' := hbel.trans (Below.mono lt.grows hbel.size)
    clear hown hbel
    generalize lt.w = W9 at *
    clear lt
    gi_wp2
    rw [Exit.noGoto_ret]
    refine ⟨by simp, .inl ⟨_, _, rfl, run_takeDeferred hK', ?_⟩⟩
    refine ⟨_, results_tmp2 rfl _ _ _, ?_⟩
    refine ⟨va, vc, ?_, ?_, hbel'.grown (grownBy_putObj' W9 D _) (Nat.le_trans (Nat.le_refl _) hbel'.size) (fun k e => by cases e; omega)⟩
    · rw [← HN.out]; rfl
    · rw [← HN.out, HW.out]; exact Sl.of_owns (ownsRow_putObj hown' _ hK' rfl)
  case body =>
    rintro l k W hk ⟨m, va, vc, h⟩
    obtain rfl := hbo (by omega)
    obtain ⟨q, hq⟩ : ∃ q, 18 * k = q := ⟨_, rfl⟩
    have hlt : q + 18 ≤ b.length := by omega
    have hml : k ≤ 450000 := by omega
    have hcb := hs.cap
    have hcm : c ≤ 9223372036854775807 := by have := hs.max; unfold maxLen at this; omega
    rw [hq]
    have HQ := Lib.hid hq.symm
    have HN := Lib.hid h.len
    have HS := Lib.hid (hq ▸ h.spec)
    have hwb := h.below
    have hz := h.below.size
    clear hq
    obtain ⟨R, hR⟩ : ∃ R, R = (b.drop q).take 18 := ⟨_, rfl⟩
    have hRl : R.length = 18 := by rw [hR, List.length_take, List.length_drop]; omega
    have hsr : Sl W W.heap.size (some ⟨bb, o + q, none⟩) 18 (c - q) 1 (R.map bv) := by
      have h1 := ((hs.below hwb (Nat.le_refl _)).from1 q (by omega)).upto1 18 (by omega)
      rw [← List.map_drop, ← List.map_take, ← hR] at h1
      exact h1.size
    obtain ⟨y4, hy4⟩ : ∃ y, y = R.getD 4 0 := ⟨_, rfl⟩
    obtain ⟨y5, hy5⟩ : ∃ y, y = R.getD 5 0 := ⟨_, rfl⟩
    have hR4 : ∀ lt : Late W, lt.w.cell? ⟨bb, o + q + 4, none⟩ = some (bv y4) := late_cell (by
      obtain ⟨b', o', e, _, hc⟩ := hsr.rd.byte 4 (by omega)
      cases e
      rw [hy4, List.getD_eq_getElem?_getD, List.getElem?_eq_getElem (by omega)]; exact hc)
    have hR5 : ∀ lt : Late W, lt.w.cell? ⟨bb, o + q + 5, none⟩ = some (bv y5) := late_cell (by
      obtain ⟨b', o', e, _, hc⟩ := hsr.rd.byte 5 (by omega)
      cases e
      rw [hy5, List.getD_eq_getElem?_getD, List.getElem?_eq_getElem (by omega)]; exact hc)
    have HY4 := Lib.hid hy4
    have HY5 := Lib.hid hy5
    clear hy4 hy5
    have hN0 := Lib.hid (fun lt : Late W => toG (number_any _ R (c - q) 18 hRl.symm (by omega) (by omega) lt.w (hsr.late lt).rd))
    have hN6 := Lib.hid (fun lt : Late W => toG (number_any _ (R.drop 6) (c - q - 6) 12 (by rw [List.length_drop]; omega) (by rw [List.length_drop]; omega) (by rw [List.length_drop]; omega) lt.w (by rw [List.map_drop]; exact ((hsr.late lt).from1 6 (by omega)).rd)))
    have hN10 := Lib.hid (fun lt : Late W => toG (number_any _ (R.drop 10) (c - q - 10) 8 (by rw [List.length_drop]; omega) (by rw [List.length_drop]; omega) (by rw [List.length_drop]; omega) lt.w (by rw [List.map_drop]; exact ((hsr.late lt).from1 10 (by omega)).rd)))
    obtain ⟨A, hA⟩ : ∃ A, A = J.act R := ⟨_, rfl⟩
    have k1 : IntKind.i32.wrap ((J.num R : Nat) : Int) = A.t := by rw [hA]; simp [IntKind.wrap, IntKind.bits, IntKind.signed, J.act, J.i32]; omega
    have k2 : IntKind.i64.wrap (IntKind.i64.wrap (y4.toNat : Int) - 1) = A.n := by
      have := y4.toNat_lt
      rw [hA]
      show _ = ((R.getD 4 0).toNat : Int) - 1
      rw [← HY4.out, IntWalk.i64_in (y4.toNat : Int) (by omega), IntWalk.i64_in _ (by omega)]
    have k3 : (y5.toNat : Int) = A.k := by
      rw [hA]
      show _ = ((R.getD 5 0).toNat : Int)
      rw [← HY5.out]
    have k4 : IntKind.i32.wrap ((J.num (R.drop 6) : Nat) : Int) = A.c := by rw [hA]; simp [IntKind.wrap, IntKind.bits, IntKind.signed, J.act, J.i32]; omega
    have k5 : IntKind.i32.wrap ((J.num (R.drop 10) : Nat) : Int) = A.x := by rw [hA]; simp [IntKind.wrap, IntKind.bits, IntKind.signed, J.act, J.i32]; omega
    have HA := Lib.hid hA
    have HR := Lib.hid hR
    have HRl := Lib.hid hRl
    have g2 : 18 ≤ c - q := by omega
    have g3 : c - q ≤ 9223372036854775807 := by omega
    have g6 : ¬ (c - q = 6) := by omega
    have g10 : ¬ (c - q = 10) := by omega
    clear hR hRl hA hbo
    have HH := Lib.hid h
    clear h
    clear b0 b1 b2 b3
    gi_wp2_with fail
    refine wpIn_region_mix [21] [(0, .quiet), (1, .quiet), (2, .quiet), (3, .quiet), (4, .quiet), (5, .quiet), (6, .quiet), (7, .quiet), (8, .quiet), (9, .quiet), (10, .quiet), (11, .quiet), (12, .quiet), (13, .quiet), (14, .quiet), (15, .quiet), (16, .quiet), (17, .quiet), (18, .quiet), (19, .quiet), (20, .grow), (21, .bar)] (by kernel_rfl) (by kernel_rfl) (by kernel_rfl) (by kernel_rfl) (by kernel_rfl) (fun _ _ d _ _ h => by cases d <;> exact h) ?_
    simp only [planOps, List.getElem?_toArray, List.getElem?_cons_zero, List.getElem?_cons_succ]
    repeat ((with_reducible refine mix_quiet (fun K hK => ?_)); go_simp; first | (refine hK _ ?_; clear hK K) | (apply Exists.intro; refine ⟨fun lt => ?_, hK _ ?_⟩; (first | with_reducible exact hN0.out lt | with_reducible exact hN6.out lt | with_reducible exact hN10.out lt); clear hK K))
    refine mix_grow (fun lt K hK => ?_)
    go_simp
    refine hK _ _ (Grows.alloc _ _) ?_
    clear hK K
    refine mix_bar (fun lt2 K hK => ?_)
    have hfz := late_new_frozen lt2
    have q0 := late_new_cell (xs := [.int .i32 0, .int .i64 0, .int .u8 0, .int .i32 0, .int .i32 0]) (j := 0) rfl lt2
    have q1 := late_new_cell (xs := [.int .i32 0, .int .i64 0, .int .u8 0, .int .i32 0, .int .i32 0]) (j := 1) rfl lt2
    have q2 := late_new_cell (xs := [.int .i32 0, .int .i64 0, .int .u8 0, .int .i32 0, .int .i32 0]) (j := 2) rfl lt2
    have q3 := late_new_cell (xs := [.int .i32 0, .int .i64 0, .int .u8 0, .int .i32 0, .int .i32 0]) (j := 3) rfl lt2
    have q4 := late_new_cell (xs := [.int .i32 0, .int .i64 0, .int .u8 0, .int .i32 0, .int .i32 0]) (j := 4) rfl lt2
    go_simp
    refine hK _ _ ?_
    clear hK K
    refine mix_nil (fun lt3 => ?_)
    have hg8 : W.heap.size ≤ lt.w.heap.size := lt.grows.size
    have hb7 : Below W.heap.size W lt3.w := Below.trans lt.grows (((Below.refl _ _).alloc hg8 _).trans ((Below.mono lt2.grows (by simp; omega)).trans
      ((((((((Below.refl _ _).setCell (p := ⟨lt.w.heap.size, 0, none⟩) hg8 _).setCell (p := ⟨lt.w.heap.size, 1, none⟩) hg8 _).setCell (p := ⟨lt.w.heap.size, 2, none⟩) hg8 _).setCell (p := ⟨lt.w.heap.size, 3, none⟩) hg8 _).setCell (p := ⟨lt.w.heap.size, 4, none⟩) hg8 _)).trans (Below.mono lt3.grows (by
        have := lt2.grows.size
        simp [World.setCell] at this ⊢; omega)))))
    have c0 := late_cell (show _ = some (.int .i32 A.t) by go_simp) lt3 (b := lt.w.heap.size) (o := 0)
    have c1 := late_cell (show _ = some (.int .i64 A.n) by go_simp) lt3 (b := lt.w.heap.size) (o := 1)
    have c2 := late_cell (show _ = some (.int .u8 A.k) by go_simp) lt3 (b := lt.w.heap.size) (o := 2)
    have c3 := late_cell (show _ = some (.int .i32 A.c) by go_simp) lt3 (b := lt.w.heap.size) (o := 3)
    have c4 := late_cell (show _ = some (.int .i32 A.x) by go_simp) lt3 (b := lt.w.heap.size) (o := 4)
    clear hfz q0 q1 q2 q3 q4
    generalize lt3.w = W7 at *
    clear lt3 lt2
    generalize lt.w.heap.size = g8 at *
    clear lt
    have hh := HH.out
    have hkf : KeepsFrom W0.heap.size W W7 := keeps_of_grows hb7
    have e0 := boxed_down hh.bl hb7 hh.bl.lt
    have e1 := boxed_down hh.bs hb7 hh.bs.lt
    have e2 := boxed_down hh.bt hb7 hh.bt.lt
    obtain ⟨x3, e3⟩ := hh.bn
    have e3' := boxed_down e3 hb7 e3.lt
    have hp3 : W7.cell? ⟨s3, 0, none⟩ = W.cell? ⟨s3, 0, none⟩ := e3'.cell.trans e3.cell.symm
    have hown7 := owns_later hh.own hb7 (Nat.le_refl _)
    have hb7w : Below w.heap.size w W7 := hwb.trans (hb7.mono hz)
    have hsr7 := hsr.below hb7 (Nat.le_refl _)
    have hwfA : A.Wf := by rw [HA.out]; exact J.act_wf R
    have hsl7 := J.sums_lt m 0 (by omega)
    clear hN0 hN6 hN10 hR4 hR5 k1 k2 k3 k4 k5 hh
    have z0 := e0.cell
    have z1 := e1.cell
    have z2 := e2.cell
    have g8lt : g8 < W7.heap.size := World.block_lt_of_cell? W7 ⟨g8, 0, none⟩ c0
    have g5 : decide ((k : Int) = 500000) = false := by simp; omega
    have g5' : ((k : Int) == 500000) = false := by simp; omega
    have hend : (J.may A && decide (J.lastT 0 m ≤ A.t) && decide (J.rec A (J.sums 0 m) = R)) = false → J.wholes b = m := by
      intro hc
      have h1 := HS.out
      rw [J.whole_no (by rw [← HR.out, ← HA.out]; exact hc), List.append_nil] at h1
      exact h1
    have hleave : ∀ W8, Below W7.heap.size W7 W8 → J.wholes b = m → KeepsFrom W0.heap.size W W8 ∧ (Code.exit 0 = Code.exit 0 ∧ ∃ m va vc, WOut b w k m va vc W8) := fun W8 hb8 hw =>
      ⟨hkf.trans (keeps_of_grows hb8), rfl, m, va, vc, HN.out, boxed_down e0 hb8 e0.lt, owns_later hown7 hb8 (Nat.le_refl _), hw, hb7w.trans (hb8.mono hb7w.size)⟩
    have hL := Lib.hid hleave
    have HE := Lib.hid hend
    clear hleave hend
    cases hmay : J.may A with
    | false =>
      have hw := HE.out (by rw [hmay]; simp)
      have HW := Lib.hid hw
      have hcall := Lib.hid (fun W => may_val hmay W)
      clear hw hmay
      gi_wp2_with (refine ⟨trivial, ?_⟩; gi_at_call 28; refine (CallsIn.inRound l (callsIn_wide.2 (hcall.out _))).mono ?_; rintro e w8 ⟨rfl, hb8⟩)
      refine ⟨trivial, ?_⟩
      gi_wp2
      refine ⟨trivial, ?_⟩
      gi_wp2
      exact ⟨(hL.out _ hb8 HW.out).1, rfl, (hL.out _ hb8 HW.out).2.2⟩
    | true =>
      have hcall := Lib.hid (fun W => may_val hmay W)
      obtain ⟨m0, m1, m2, m3, m4⟩ := J.may_t hmay
      have hput := Lib.hid (fun W => put_any A.t A.n A.k A.c A.x hwfA m1 m2 (J.sums 0 m) hsl7 W)
      have HMAY := Lib.hid hmay
      clear hmay m0 m1 m2 m3 m4
      by_cases ht : A.t < J.lastT 0 m
      · have hw := HE.out (by rw [decide_eq_false (show ¬ J.lastT 0 m ≤ A.t by omega)]; simp)
        have HW := Lib.hid hw
        have ht1 : decide (A.t < J.lastT 0 m) = true := by simp; omega
        clear hw ht
        gi_wp2_with (refine ⟨trivial, ?_⟩; gi_at_call 28; refine (CallsIn.inRound l (callsIn_wide.2 (hcall.out _))).mono ?_; rintro e w8 ⟨rfl, hb8⟩; have y2 := (boxed_down e2 hb8 e2.lt).cell; have d0 := (hb8.cell (p := ⟨g8, 0, none⟩) g8lt).trans c0)
        refine ⟨trivial, ?_⟩
        gi_wp2
        refine ⟨trivial, ?_⟩
        gi_wp2
        exact ⟨(hL.out _ hb8 HW.out).1, rfl, (hL.out _ hb8 HW.out).2.2⟩
      · have HT := Lib.hid (show J.lastT 0 m ≤ A.t by omega)
        have ht1 : decide (A.t < J.lastT 0 m) = false := by simp; omega
        clear ht
        by_cases hrec : J.rec A (J.sums 0 m) = R
        · have hq1 : decide (J.rec A (J.sums 0 m) = R) = true := by simp [hrec]
          have HREC := Lib.hid hrec
          have HOK := Lib.hid (show (J.may A && decide (J.lastT 0 m ≤ A.t) && decide (J.rec A (J.sums 0 m) = R)) = true by
            rw [HMAY.out, decide_eq_true HT.out, decide_eq_true hrec]; rfl)
          clear hrec
          have heq := Lib.hid (fun W v c' h1 h2 => equal_any v (some ⟨bb, o + q, none⟩) 18 c' 18 (c - q) (J.rec A (J.sums 0 m)) R W h1 h2)
          gi_wp2_with (refine ⟨trivial, ?_⟩; first
            | (gi_at_call 28; refine (CallsIn.inRound l (callsIn_wide.2 (hcall.out _))).mono ?_; rintro e w8 ⟨rfl, hb8⟩
               have y2 := (boxed_down e2 hb8 e2.lt).cell; have y1 := (boxed_down e1 hb8 e1.lt).cell
               have d0 := (hb8.cell (p := ⟨g8, 0, none⟩) g8lt).trans c0; have d1 := (hb8.cell (p := ⟨g8, 1, none⟩) g8lt).trans c1; have d2 := (hb8.cell (p := ⟨g8, 2, none⟩) g8lt).trans c2; have d3 := (hb8.cell (p := ⟨g8, 3, none⟩) g8lt).trans c3; have d4 := (hb8.cell (p := ⟨g8, 4, none⟩) g8lt).trans c4)
            | (gi_at_call 29; refine (CallsIn.inRound l (callsIn_wide.2 (hput.out _))).mono ?_; rintro e w9 ⟨v9, c9, rfl, hs9, hb9⟩
               have hb79 : Below W7.heap.size W7 w9 := Below.trans hb8 (Below.mono hb9 hb8.size)
               have hsr9 := (hsr7.below hb79 hb7.size).size)
            | (gi_at_call 19; refine (CallsIn.inRound l (callsIn_wide.2 (heq.out _ _ _ hs9 hsr9))).mono ?_; rintro e w10 ⟨rfl, hb10⟩))
          have hb10w : Below W7.heap.size W7 w10 := Below.trans hb79 (Below.mono hb10 hb79.size)
          have hk10 : KeepsFrom W0.heap.size W w10 := hkf.trans (keeps_of_grows hb10w)
          have f0 := boxed_down e0 hb10w e0.lt
          have f1 := boxed_down e1 hb10w e1.lt
          have f2 := boxed_down e2 hb10w e2.lt
          have f3 := boxed_down e3' hb10w e3'.lt
          have hown10 := owns_later hown7 hb10w (Nat.le_refl _)
          have hw10 : Below w.heap.size w w10 := hb7w.trans (hb10w.mono hb7w.size)
          have hz10 := hw10.size
          have hsr10 := (hsr7.below hb10w hb7.size).size
          have g8l : g8 < w10.heap.size := Nat.lt_of_lt_of_le g8lt hb10w.size
          have x0 := (hb10w.cell (p := ⟨g8, 0, none⟩) g8lt).trans c0
          have x1 := (hb10w.cell (p := ⟨g8, 1, none⟩) g8lt).trans c1
          have x2 := (hb10w.cell (p := ⟨g8, 2, none⟩) g8lt).trans c2
          have x3' := (hb10w.cell (p := ⟨g8, 3, none⟩) g8lt).trans c3
          have x4 := (hb10w.cell (p := ⟨g8, 4, none⟩) g8lt).trans c4
          have n1 : ¬ s1 = g8 := by have := HH.out.bs.lt; omega
          have n2 : ¬ s2 = g8 := by have := HH.out.bt.lt; omega
          have n0 : ¬ w.heap.size = g8 := by have := HH.out.bl.lt; omega
          obtain ⟨M, hM⟩ : ∃ M, M = m ++ [A] := ⟨_, rfl⟩
          have hN := number_any (some ⟨bb, o + q + 14, none⟩) (R.drop 14) (c - q - 14) 4 (by rw [List.length_drop, HRl.out]) (by rw [List.length_drop, HRl.out]; omega) (by rw [List.length_drop, HRl.out]; omega)
          rw [show J.num (R.drop 14) = J.sums 0 M by rw [hM, J.sums_snoc, ← HREC.out, J.rec_drop, J.num_four _ (J.sum_lt _ _)]] at hN
          have hN14 := Lib.hid (fun lt : Late w10 => hN lt.w (by rw [List.map_drop]; exact ((hsr10.late lt).from1 14 (by omega)).rd))
          have hst := J.wholes_step HN.out HQ.out hlt HS.out (by rw [← HR.out, ← HA.out]; exact HOK.out)
          rw [← HR.out, ← HA.out, ← hM] at hst
          have hMl : k + 1 = M.length := by rw [hM, List.length_append, ← HN.out]; rfl
          have hMt : J.lastT 0 M = A.t := by rw [hM, J.lastT_snoc]
          have HM := Lib.hid hM
          have HST := Lib.hid hst
          have HML := Lib.hid hMl
          have HMT := Lib.hid hMt
          have hsM := J.sums_lt M 0 (by omega)
          have p1 := f1.cell
          have p1f := f1.frozen
          have p2 := f2.cell
          have p2f := f2.frozen
          clear hM hst hMl hMt hN y1 y2 d0 d1 d2 d3 d4 c0 c1 c2 c3 c4 z0 z1 z2 hs9 hsr9 hb9 hb10 hb79 hb8 hL hput hcall heq HE hsr7 hown7
          clear w9 w8
          have g14 : ¬ (c - q = 14) := by omega
          have hN14g := Lib.hid (fun lt : Late w10 => toG (hN14.out lt))
          have t10 : Two w.heap.size s1 s2 w10 w10 := Two.grow hz10 (Grows.refl _)
          gi_cut [] from 54 (fun wc => Boxed wc s1 40 (.int .u32 (J.sums 0 M : Nat)) ∧ Boxed wc s2 21 (.int .i32 A.t) ∧ Two w.heap.size s1 s2 w10 wc)
          case first =>
            refine wpIn_region_treeN [5, 6] (.one 0 .quiet (.one 1 .quiet (.one 2 .quiet (.two 3 (.two 4 (.one 5 .bar (.one 6 .bar .nil)) 5 (.one 4 .grow (.one 6 .bar .nil))) 5 (.one 3 .grow (.one 4 .grow (.one 6 .bar .nil))))))) (by kernel_rfl) (by kernel_rfl) (by kernel_rfl) (by decide) (by kernel_rfl) ?_
            simp only [treeOps, List.getElem?_toArray, List.getElem?_cons_zero, List.getElem?_cons_succ]
            repeat ((with_reducible refine tree_quiet (fun K hK => ?_)); go_simp; first | (refine hK _ ?_; clear hK K) | (apply Exists.intro; refine ⟨fun lt => ?_, hK _ ?_⟩; (first | with_reducible exact hN14g.out lt); clear hK K))
            have B10 := f1
            have B20 := f2
            have X0 := x0
            have G0 := g8l
            have T0 := t10
            have Z0 := hz10
            clear f1 f2 x0 g8l t10 p1 p1f p2 p2f hz10
            refine tree_two (fun lt K hK => ?_) (fun lt K hK => ?_)
            · have hdummy := trivial
              have B11 := boxed_down B10 lt.grows B10.lt
              have B21 := boxed_down B20 lt.grows B20.lt
              have X1 := (lt.grows.cell (p := ⟨g8, 0, none⟩) G0).trans X0
              have G1 : g8 < lt.w.heap.size := Nat.lt_of_lt_of_le G0 lt.grows.size
              have T1 := T0.trans (Two.grow Z0 lt.grows)
              have Z1 : w.heap.size ≤ lt.w.heap.size := Nat.le_trans Z0 lt.grows.size
              have C11 := B11.cell
              have R11 := B11.frozen
              have C21 := B21.cell
              have R21 := B21.frozen
              clear B10 B20 X0 G0 T0 Z0
              generalize lt.w = V1 at *
              go_simp
              refine hK _ _ (Grows.refl _) ?_
              clear hK K lt C11 R11 C21 R21
              refine tree_two (fun lt K hK => ?_) (fun lt K hK => ?_)
              · have hdummy := trivial
                have B12 := boxed_down B11 lt.grows B11.lt
                have B22 := boxed_down B21 lt.grows B21.lt
                have X2 := (lt.grows.cell (p := ⟨g8, 0, none⟩) G1).trans X1
                have G2 : g8 < lt.w.heap.size := Nat.lt_of_lt_of_le G1 lt.grows.size
                have T2 := T1.trans (Two.grow Z1 lt.grows)
                have Z2 : w.heap.size ≤ lt.w.heap.size := Nat.le_trans Z1 lt.grows.size
                have C12 := B12.cell
                have R12 := B12.frozen
                have C22 := B22.cell
                have R22 := B22.frozen
                clear B11 B21 X1 G1 T1 Z1
                generalize lt.w = V2 at *
                go_simp
                refine hK _ _ (Grows.refl _) ?_
                clear hK K lt C12 R12 C22 R22
                refine tree_bar (fun lt K hK => ?_)
                have B13 := boxed_down B12 lt.grows B12.lt
                have B23 := boxed_down B22 lt.grows B22.lt
                have X3 := (lt.grows.cell (p := ⟨g8, 0, none⟩) G2).trans X2
                have G3 : g8 < lt.w.heap.size := Nat.lt_of_lt_of_le G2 lt.grows.size
                have T3 := T2.trans (Two.grow Z2 lt.grows)
                have Z3 : w.heap.size ≤ lt.w.heap.size := Nat.le_trans Z2 lt.grows.size
                have C13 := B13.cell
                have R13 := B13.frozen
                have C23 := B23.cell
                have R23 := B23.frozen
                clear B12 B22 X2 G2 T2 Z2
                generalize lt.w = V3 at *
                go_simp
                refine hK _ _ ?_
                clear hK K lt C13 R13 C23 R23
                have B14 := B13.set (.int .u32 (J.sums 0 M : Nat))
                have B24 := boxed_far B23 (p := ⟨s1, 0, none⟩) (.int .u32 (J.sums 0 M : Nat)) (by show s2 ≠ s1; omega)
                have X4 := (World.cell?_setCell_far V3 ⟨s1, 0, none⟩ ⟨g8, 0, none⟩ (.int .u32 (J.sums 0 M : Nat)) n1).trans X3
                have T4 := T3.trans (Two.set1 (A := V3) (by omega) (.int .u32 (J.sums 0 M : Nat)))
                have G4 : g8 < (V3.setCell ⟨s1, 0, none⟩ (.int .u32 (J.sums 0 M : Nat))).heap.size := by simpa [World.setCell] using G3
                have Z4 : w.heap.size ≤ (V3.setCell ⟨s1, 0, none⟩ (.int .u32 (J.sums 0 M : Nat))).heap.size := by simpa [World.setCell] using Z3
                clear B13 B23 X3 T3 G3 Z3
                refine tree_bar (fun lt K hK => ?_)
                have B15 := boxed_down B14 lt.grows B14.lt
                have B25 := boxed_down B24 lt.grows B24.lt
                have X5 := (lt.grows.cell (p := ⟨g8, 0, none⟩) G4).trans X4
                have G5 : g8 < lt.w.heap.size := Nat.lt_of_lt_of_le G4 lt.grows.size
                have T5 := T4.trans (Two.grow Z4 lt.grows)
                have Z5 : w.heap.size ≤ lt.w.heap.size := Nat.le_trans Z4 lt.grows.size
                have C15 := B15.cell
                have R15 := B15.frozen
                have C25 := B25.cell
                have R25 := B25.frozen
                clear B14 B24 X4 G4 T4 Z4
                generalize lt.w = V5 at *
                go_simp
                refine hK _ _ ?_
                clear hK K lt C15 R15 C25 R25
                have B16 := boxed_far B15 (p := ⟨s2, 0, none⟩) (.int .i32 A.t) (by show s1 ≠ s2; omega)
                have B26 := B25.set (.int .i32 A.t)
                have X6 := (World.cell?_setCell_far V5 ⟨s2, 0, none⟩ ⟨g8, 0, none⟩ (.int .i32 A.t) n2).trans X5
                have T6 := T5.trans (Two.set2 (A := V5) (by omega) (.int .i32 A.t))
                have G6 : g8 < (V5.setCell ⟨s2, 0, none⟩ (.int .i32 A.t)).heap.size := by simpa [World.setCell] using G5
                have Z6 : w.heap.size ≤ (V5.setCell ⟨s2, 0, none⟩ (.int .i32 A.t)).heap.size := by simpa [World.setCell] using Z5
                clear B15 B25 X5 T5 G5 Z5
                refine tree_nil (fun lt => ?_)
                have B199 := boxed_down B16 lt.grows B16.lt
                have B299 := boxed_down B26 lt.grows B26.lt
                have X99 := (lt.grows.cell (p := ⟨g8, 0, none⟩) G6).trans X6
                have G99 : g8 < lt.w.heap.size := Nat.lt_of_lt_of_le G6 lt.grows.size
                have T99 := T6.trans (Two.grow Z6 lt.grows)
                have Z99 : w.heap.size ≤ lt.w.heap.size := Nat.le_trans Z6 lt.grows.size
                have C199 := B199.cell
                have R199 := B199.frozen
                have C299 := B299.cell
                have R299 := B299.frozen
                clear B16 B26 X6 G6 T6 Z6
                generalize lt.w = V99 at *
                dsimp only [onlyNormal]
                gi_wp2
                gi_meet
                case rel => exact ⟨B199, B299, T99⟩
              · have hdummy := trivial
                have B12 := boxed_down B11 lt.grows B11.lt
                have B22 := boxed_down B21 lt.grows B21.lt
                have X2 := (lt.grows.cell (p := ⟨g8, 0, none⟩) G1).trans X1
                have G2 : g8 < lt.w.heap.size := Nat.lt_of_lt_of_le G1 lt.grows.size
                have T2 := T1.trans (Two.grow Z1 lt.grows)
                have Z2 : w.heap.size ≤ lt.w.heap.size := Nat.le_trans Z1 lt.grows.size
                have C12 := B12.cell
                have R12 := B12.frozen
                have C22 := B22.cell
                have R22 := B22.frozen
                clear B11 B21 X1 G1 T1 Z1
                generalize lt.w = V2 at *
                go_simp
                refine hK _ _ ?_
                clear hK K lt C12 R12 C22 R22
                have B13 := B12.set (.int .u32 (J.sums 0 M : Nat))
                have B23 := boxed_far B22 (p := ⟨s1, 0, none⟩) (.int .u32 (J.sums 0 M : Nat)) (by show s2 ≠ s1; omega)
                have X3 := (World.cell?_setCell_far V2 ⟨s1, 0, none⟩ ⟨g8, 0, none⟩ (.int .u32 (J.sums 0 M : Nat)) n1).trans X2
                have T3 := T2.trans (Two.set1 (A := V2) (by omega) (.int .u32 (J.sums 0 M : Nat)))
                have G3 : g8 < (V2.setCell ⟨s1, 0, none⟩ (.int .u32 (J.sums 0 M : Nat))).heap.size := by simpa [World.setCell] using G2
                have Z3 : w.heap.size ≤ (V2.setCell ⟨s1, 0, none⟩ (.int .u32 (J.sums 0 M : Nat))).heap.size := by simpa [World.setCell] using Z2
                clear B12 B22 X2 T2 G2 Z2
                refine tree_grow (fun lt K hK => ?_)
                have B14 := boxed_down B13 lt.grows B13.lt
                have B24 := boxed_down B23 lt.grows B23.lt
                have X4 := (lt.grows.cell (p := ⟨g8, 0, none⟩) G3).trans X3
                have G4 : g8 < lt.w.heap.size := Nat.lt_of_lt_of_le G3 lt.grows.size
                have T4 := T3.trans (Two.grow Z3 lt.grows)
                have Z4 : w.heap.size ≤ lt.w.heap.size := Nat.le_trans Z3 lt.grows.size
                have C14 := B14.cell
                have R14 := B14.frozen
                have C24 := B24.cell
                have R24 := B24.frozen
                clear B13 B23 X3 G3 T3 Z3
                generalize lt.w = V4 at *
                go_simp
                refine hK _ _ (Grows.refl _) ?_
                clear hK K lt C14 R14 C24 R24
                refine tree_bar (fun lt K hK => ?_)
                have B15 := boxed_down B14 lt.grows B14.lt
                have B25 := boxed_down B24 lt.grows B24.lt
                have X5 := (lt.grows.cell (p := ⟨g8, 0, none⟩) G4).trans X4
                have G5 : g8 < lt.w.heap.size := Nat.lt_of_lt_of_le G4 lt.grows.size
                have T5 := T4.trans (Two.grow Z4 lt.grows)
                have Z5 : w.heap.size ≤ lt.w.heap.size := Nat.le_trans Z4 lt.grows.size
                have C15 := B15.cell
                have R15 := B15.frozen
                have C25 := B25.cell
                have R25 := B25.frozen
                clear B14 B24 X4 G4 T4 Z4
                generalize lt.w = V5 at *
                go_simp
                refine hK _ _ ?_
                clear hK K lt C15 R15 C25 R25
                have B16 := boxed_far B15 (p := ⟨s2, 0, none⟩) (.int .i32 A.t) (by show s1 ≠ s2; omega)
                have B26 := B25.set (.int .i32 A.t)
                have X6 := (World.cell?_setCell_far V5 ⟨s2, 0, none⟩ ⟨g8, 0, none⟩ (.int .i32 A.t) n2).trans X5
                have T6 := T5.trans (Two.set2 (A := V5) (by omega) (.int .i32 A.t))
                have G6 : g8 < (V5.setCell ⟨s2, 0, none⟩ (.int .i32 A.t)).heap.size := by simpa [World.setCell] using G5
                have Z6 : w.heap.size ≤ (V5.setCell ⟨s2, 0, none⟩ (.int .i32 A.t)).heap.size := by simpa [World.setCell] using Z5
                clear B15 B25 X5 T5 G5 Z5
                refine tree_nil (fun lt => ?_)
                have B199 := boxed_down B16 lt.grows B16.lt
                have B299 := boxed_down B26 lt.grows B26.lt
                have X99 := (lt.grows.cell (p := ⟨g8, 0, none⟩) G6).trans X6
                have G99 : g8 < lt.w.heap.size := Nat.lt_of_lt_of_le G6 lt.grows.size
                have T99 := T6.trans (Two.grow Z6 lt.grows)
                have Z99 : w.heap.size ≤ lt.w.heap.size := Nat.le_trans Z6 lt.grows.size
                have C199 := B199.cell
                have R199 := B199.frozen
                have C299 := B299.cell
                have R299 := B299.frozen
                clear B16 B26 X6 G6 T6 Z6
                generalize lt.w = V99 at *
                dsimp only [onlyNormal]
                gi_wp2
                gi_meet
                case rel => exact ⟨B199, B299, T99⟩
            · have hdummy := trivial
              have B11 := boxed_down B10 lt.grows B10.lt
              have B21 := boxed_down B20 lt.grows B20.lt
              have X1 := (lt.grows.cell (p := ⟨g8, 0, none⟩) G0).trans X0
              have G1 : g8 < lt.w.heap.size := Nat.lt_of_lt_of_le G0 lt.grows.size
              have T1 := T0.trans (Two.grow Z0 lt.grows)
              have Z1 : w.heap.size ≤ lt.w.heap.size := Nat.le_trans Z0 lt.grows.size
              have C11 := B11.cell
              have R11 := B11.frozen
              have C21 := B21.cell
              have R21 := B21.frozen
              clear B10 B20 X0 G0 T0 Z0
              generalize lt.w = V1 at *
              go_simp
              refine hK _ _ ?_
              clear hK K lt C11 R11 C21 R21
              have B12 := B11.set (.int .u32 (J.sums 0 M : Nat))
              have B22 := boxed_far B21 (p := ⟨s1, 0, none⟩) (.int .u32 (J.sums 0 M : Nat)) (by show s2 ≠ s1; omega)
              have X2 := (World.cell?_setCell_far V1 ⟨s1, 0, none⟩ ⟨g8, 0, none⟩ (.int .u32 (J.sums 0 M : Nat)) n1).trans X1
              have T2 := T1.trans (Two.set1 (A := V1) (by omega) (.int .u32 (J.sums 0 M : Nat)))
              have G2 : g8 < (V1.setCell ⟨s1, 0, none⟩ (.int .u32 (J.sums 0 M : Nat))).heap.size := by simpa [World.setCell] using G1
              have Z2 : w.heap.size ≤ (V1.setCell ⟨s1, 0, none⟩ (.int .u32 (J.sums 0 M : Nat))).heap.size := by simpa [World.setCell] using Z1
              clear B11 B21 X1 T1 G1 Z1
              refine tree_grow (fun lt K hK => ?_)
              have B13 := boxed_down B12 lt.grows B12.lt
              have B23 := boxed_down B22 lt.grows B22.lt
              have X3 := (lt.grows.cell (p := ⟨g8, 0, none⟩) G2).trans X2
              have G3 : g8 < lt.w.heap.size := Nat.lt_of_lt_of_le G2 lt.grows.size
              have T3 := T2.trans (Two.grow Z2 lt.grows)
              have Z3 : w.heap.size ≤ lt.w.heap.size := Nat.le_trans Z2 lt.grows.size
              have C13 := B13.cell
              have R13 := B13.frozen
              have C23 := B23.cell
              have R23 := B23.frozen
              clear B12 B22 X2 G2 T2 Z2
              generalize lt.w = V3 at *
              go_simp
              refine hK _ _ (Grows.refl _) ?_
              clear hK K lt C13 R13 C23 R23
              refine tree_grow (fun lt K hK => ?_)
              have B14 := boxed_down B13 lt.grows B13.lt
              have B24 := boxed_down B23 lt.grows B23.lt
              have X4 := (lt.grows.cell (p := ⟨g8, 0, none⟩) G3).trans X3
              have G4 : g8 < lt.w.heap.size := Nat.lt_of_lt_of_le G3 lt.grows.size
              have T4 := T3.trans (Two.grow Z3 lt.grows)
              have Z4 : w.heap.size ≤ lt.w.heap.size := Nat.le_trans Z3 lt.grows.size
              have C14 := B14.cell
              have R14 := B14.frozen
              have C24 := B24.cell
              have R24 := B24.frozen
              clear B13 B23 X3 G3 T3 Z3
              generalize lt.w = V4 at *
              go_simp
              refine hK _ _ (Grows.refl _) ?_
              clear hK K lt C14 R14 C24 R24
              refine tree_bar (fun lt K hK => ?_)
              have B15 := boxed_down B14 lt.grows B14.lt
              have B25 := boxed_down B24 lt.grows B24.lt
              have X5 := (lt.grows.cell (p := ⟨g8, 0, none⟩) G4).trans X4
              have G5 : g8 < lt.w.heap.size := Nat.lt_of_lt_of_le G4 lt.grows.size
              have T5 := T4.trans (Two.grow Z4 lt.grows)
              have Z5 : w.heap.size ≤ lt.w.heap.size := Nat.le_trans Z4 lt.grows.size
              have C15 := B15.cell
              have R15 := B15.frozen
              have C25 := B25.cell
              have R25 := B25.frozen
              clear B14 B24 X4 G4 T4 Z4
              generalize lt.w = V5 at *
              go_simp
              refine hK _ _ ?_
              clear hK K lt C15 R15 C25 R25
              have B16 := boxed_far B15 (p := ⟨s2, 0, none⟩) (.int .i32 A.t) (by show s1 ≠ s2; omega)
              have B26 := B25.set (.int .i32 A.t)
              have X6 := (World.cell?_setCell_far V5 ⟨s2, 0, none⟩ ⟨g8, 0, none⟩ (.int .i32 A.t) n2).trans X5
              have T6 := T5.trans (Two.set2 (A := V5) (by omega) (.int .i32 A.t))
              have G6 : g8 < (V5.setCell ⟨s2, 0, none⟩ (.int .i32 A.t)).heap.size := by simpa [World.setCell] using G5
              have Z6 : w.heap.size ≤ (V5.setCell ⟨s2, 0, none⟩ (.int .i32 A.t)).heap.size := by simpa [World.setCell] using Z5
              clear B15 B25 X5 T5 G5 Z5
              refine tree_nil (fun lt => ?_)
              have B199 := boxed_down B16 lt.grows B16.lt
              have B299 := boxed_down B26 lt.grows B26.lt
              have X99 := (lt.grows.cell (p := ⟨g8, 0, none⟩) G6).trans X6
              have G99 : g8 < lt.w.heap.size := Nat.lt_of_lt_of_le G6 lt.grows.size
              have T99 := T6.trans (Two.grow Z6 lt.grows)
              have Z99 : w.heap.size ≤ lt.w.heap.size := Nat.le_trans Z6 lt.grows.size
              have C199 := B199.cell
              have R199 := B199.frozen
              have C299 := B299.cell
              have R299 := B299.frozen
              clear B16 B26 X6 G6 T6 Z6
              generalize lt.w = V99 at *
              dsimp only [onlyNormal]
              gi_wp2
              gi_meet
              case rel => exact ⟨B199, B299, T99⟩
          case rest =>
            obtain ⟨B1, B2, T⟩ := hcut
            have hB0 : Boxed wc w.heap.size 24 (.slice va k vc) := (T.same _ f0.lt (by omega) (by omega)).trans f0
            have hB3 : Boxed wc s3 22 x3 := (T.same _ f3.lt (by omega) (by omega)).trans f3
            have hownc := owns_two T f1 f2 (by decide) (by decide) hown10
            have v0 := (T.cell (p := ⟨g8, 0, none⟩) g8l (fun h => n1 h.symm) (fun h => n2 h.symm)).trans x0
            have v1 := (T.cell (p := ⟨g8, 1, none⟩) g8l (fun h => n1 h.symm) (fun h => n2 h.symm)).trans x1
            have v2 := (T.cell (p := ⟨g8, 2, none⟩) g8l (fun h => n1 h.symm) (fun h => n2 h.symm)).trans x2
            have v3 := (T.cell (p := ⟨g8, 3, none⟩) g8l (fun h => n1 h.symm) (fun h => n2 h.symm)).trans x3'
            have v4 := (T.cell (p := ⟨g8, 4, none⟩) g8l (fun h => n1 h.symm) (fun h => n2 h.symm)).trans x4
            have hwc : Below w.heap.size w wc := hw10.trans T.below
            have hzc := hwc.size
            have hkc : KeepsFrom W0.heap.size W wc := hk10.trans ⟨T.below.size, fun j o hj ho _ => (T.same j (Array.getElem?_eq_some_iff.1 ho).1 (by omega) (by omega)).trans ho⟩
            have hsn := sl_new wc (avs [A]) 44 1 5 rfl (by unfold maxLen; omega)
            have z0 := hB0.cell
            clear f0 f1 f2 f3 x0 x1 x2 x3' x4 hown10 p1 p1f p2 p2f g8l hk10 hw10 e0 e1 e2 e3' hp3 hb7 hb7w hkf hb10w hN14 hN14g T t10 hz10
            gi_wp2_with (gi_at_builtin; go_must (refine app_ownIn rfl (.tmp 59) (.tmp 61) 24 rfl Try.elA rfl (hownc.alloc _) rfl hsn (oneCell_acts [A]) (by omega) (by omega) (by simp; omega) ?_); intro a' c' w' q1 q2; obtain ⟨r1, r2, r3, r4, r5⟩ := hB0.appended (by decide) hownc hzc (Nat.le_refl _) q1 q2; have rc := r1.cell; have rf := r1.frozen; have w1 := ((B1.alloc _).kept q2 (B1.not_row (by decide) hownc)); have w2 := ((B2.alloc _).kept q2 (B2.not_row (by decide) hownc)); have w3 := ((hB3.alloc _).kept q2 (hB3.not_row (by decide) hownc)))
            refine ⟨hkc.trans (r4.from _), ⟨((boxed_far w3 (p := ⟨w.heap.size, 0, none⟩) _ (by show s3 ≠ w.heap.size; omega)).cell).trans e3.cell.symm, (boxed_far w3 (p := ⟨w.heap.size, 0, none⟩) _ (by show s3 ≠ w.heap.size; omega)).frozen.trans e3.frozen.symm⟩,
              M, a', c', HML.out, r2, boxed_far w1 (p := ⟨w.heap.size, 0, none⟩) _ (by show s1 ≠ w.heap.size; omega), ?_, ⟨x3, boxed_far w3 (p := ⟨w.heap.size, 0, none⟩) _ (by show s3 ≠ w.heap.size; omega)⟩, ?_, ?_, hwc.trans r5⟩
            · rw [HMT.out]; exact boxed_far w2 (p := ⟨w.heap.size, 0, none⟩) _ (by show s2 ≠ w.heap.size; omega)
            · rw [HM.out, avs_append]; exact r3
            · rw [show 18 * (k + 1) = q + 18 by rw [HQ.out]; omega]; exact HST.out
        · have hq1 : decide (J.rec A (J.sums 0 m) = R) = false := by simp [hrec]
          have HW := Lib.hid (HE.out (by rw [decide_eq_false hrec]; simp))
          clear hrec
          have heq := Lib.hid (fun W v c' h1 h2 => equal_any v (some ⟨bb, o + q, none⟩) 18 c' 18 (c - q) (J.rec A (J.sums 0 m)) R W h1 h2)
          gi_wp2_with (refine ⟨trivial, ?_⟩; first
            | (gi_at_call 28; refine (CallsIn.inRound l (callsIn_wide.2 (hcall.out _))).mono ?_; rintro e w8 ⟨rfl, hb8⟩
               have y2 := (boxed_down e2 hb8 e2.lt).cell; have y1 := (boxed_down e1 hb8 e1.lt).cell
               have d0 := (hb8.cell (p := ⟨g8, 0, none⟩) g8lt).trans c0; have d1 := (hb8.cell (p := ⟨g8, 1, none⟩) g8lt).trans c1; have d2 := (hb8.cell (p := ⟨g8, 2, none⟩) g8lt).trans c2; have d3 := (hb8.cell (p := ⟨g8, 3, none⟩) g8lt).trans c3; have d4 := (hb8.cell (p := ⟨g8, 4, none⟩) g8lt).trans c4)
            | (gi_at_call 29; refine (CallsIn.inRound l (callsIn_wide.2 (hput.out _))).mono ?_; rintro e w9 ⟨v9, c9, rfl, hs9, hb9⟩
               have hb79 : Below W7.heap.size W7 w9 := Below.trans hb8 (Below.mono hb9 hb8.size)
               have hsr9 := (hsr7.below hb79 hb7.size).size)
            | (gi_at_call 19; refine (CallsIn.inRound l (callsIn_wide.2 (heq.out _ _ _ hs9 hsr9))).mono ?_; rintro e w10 ⟨rfl, hb10⟩))
          have hb10w : Below W7.heap.size W7 w10 := Below.trans hb79 (Below.mono hb10 hb79.size)
          exact ⟨(hL.out _ hb10w HW.out).1, rfl, (hL.out _ hb10w HW.out).2.2⟩

end Go.Proofs.Ytobdibhadgfldaa
