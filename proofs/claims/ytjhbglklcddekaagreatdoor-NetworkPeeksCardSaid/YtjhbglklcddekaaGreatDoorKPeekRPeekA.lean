/- Parts: RNPeekA. -/
import Derived.Test.YtjhbglklcddekaaGreatDoorV31
import Derived.Test.YtjhbglklcddekaaGreatDoorV43
set_option linter.all false
set_option maxRecDepth 100000
set_option maxHeartbeats 16000000
namespace Go.Proofs.YtjhbglklcddekaaGreatDoor
open Go.RowKit Go.Proofs.Tryz
section
open Go.ChangeShapes Go.WideShapes Go.ChangeAt Go.RowKit Nd
theorem opn_poke : Opn prog 102 (fun ds => ∃ x : Nat × Nat, (x.1 < 4294967296 ∧ x.2 < 4294967296) ∧ .agg ds = dW x) :=
  (opn_struct (Gs := [_, _]) Tryz.underlying102 (.cons (opn_int Tryz.underlying21) (.cons (opn_int Tryz.underlying21) .nil)) (by kernel_rfl) (by kernel_rfl)).mono fun ds h => by
    obtain ⟨_, _, rfl, ⟨x, rfl, hx⟩, _, _, rfl, ⟨y, rfl, hy⟩, rfl⟩ := h
    obtain ⟨a, ha, rfl⟩ := s32_any hx
    obtain ⟨b, hb, rfl⟩ := s32_any hy
    exact ⟨(a, b), ⟨ha, hb⟩, rfl⟩
theorem opn_pokes : Opn prog 97 (fun ds => ∃ l : List (Nat × Nat), okW l ∧ ds = [.list 2 (l.map dW)]) :=
  (opn_slice false 2 Tryz.underlying97 (by kernel_rfl) (fun h => by cases h) opn_poke).mono fun ds ⟨xs, e, h, _⟩ => by
    obtain ⟨l, h1, hl⟩ := list_of (fun _ h => h) xs h
    exact ⟨l, h1, by rw [e, hl]⟩
theorem opn_u32s : Opn prog 98 (fun ds => ∃ l : List Int, ds = [.list 1 (l.map (D.int .u32))]) :=
  (opn_slice true 1 Tryz.underlying98 (by kernel_rfl) (fun _ => rfl) (opn_int Tryz.underlying77)).mono fun ds ⟨xs, e, h, _⟩ => by
    have : ∀ xs : List (List D), (∀ x ∈ xs, (∃ n, x = [.int .u32 n] ∧ (Lit.int .u32 n).wf = true) ∧ x.length = 1) → ∃ l : List Int, xs.map (datOf true) = l.map (D.int .u32) := by
      intro xs
      induction xs with
      | nil => intro _; exact ⟨[], rfl⟩
      | cons x xs ih =>
        intro h
        obtain ⟨⟨n, rfl, _⟩, _⟩ := h x (by simp)
        obtain ⟨l, hl⟩ := ih (fun y hy => h y (by simp [hy]))
        exact ⟨n :: l, by rw [List.map_cons, hl]; rfl⟩
    obtain ⟨l, hl⟩ := this xs h
    exact ⟨l, by rw [e, hl]⟩
set_option maxRecDepth 100000 in
theorem NPeek_lifted (os : Os) (started : os.Started) (H : Type) (enc : TypeId × Value → H) :
    ReturnsInHanded {} Tryz.checked os 6 .any (fun w args => (Rows.networkPeeksSpec.pre enc prog Tryz.f6 [] false w args ∧ laidMetH prog laid3 w) ∧ sizedMet enc prog Tryz.f6 (OpenSpec.ofChange Rows.networkPeeksSpec) false w args)
      (Rows.networkPeeksSpec.post enc prog Tryz.f6 false true false false) := by
  refine returnsInHanded_of_change_and (C := Tryz.checked) (X := fun w _ => laidMetH prog laid3 w) (fun _ _ _ hh h => h.of_heap hh) own_knob started (by kernel_rfl) func6
    (ChangeSpec.witness_shaped (enc := enc) (C := Tryz.checked) (os := os) (X := fun w _ => laidMetH prog laid3 w) false (World.doorLaid prog 38 os) #[.slice none 0 0, .slice none 0 0] 8 rfl (World.shaped_of_RefB (by kernel_rfl) (by kernel_rfl)) (by kernel_rfl) (by kernel_rfl) (by kernel_rfl) (door_met os _)) ?_
  intro W base args ds gs before hval0 hW _ _ hL _
  have hval : ∀ (j : Nat) t v, Tryz.f6.params[j]? = some t → args[j]? = some v → Value.okWide prog W .any base t v := hval0
  have hW' := hW
  obtain ⟨p, q, hA0, hV, rfl, hfz, hnd⟩ := hW
  have hA : DataW.TrodAll enc prog W 0 (fun _ => true) true Tryz.f6.params.toList args.toList ds p := hA0
  rw [Tryz.params6] at hA hval
  obtain ⟨v0, vs0, d0, ds0, p0, q0, hargs, rfl, rfl, h0, r0⟩ := trodAll_cons hA
  obtain ⟨v1, vs1, d1, ds1, p1, q1, rfl, rfl, rfl, h1, r1⟩ := trodAll_cons r0
  obtain ⟨rfl, rfl, rfl⟩ := trodAll_nil r1
  obtain rfl : args = #[v0, v1] := by cases args; simp_all
  obtain ⟨rfl, rfl⟩ := trodVars_none hV
  have lt0 : ∀ x ∈ p0, x.block < W.heap.size := by obtain ⟨m, hm⟩ := h0; exact DataW.trod_lt m _ _ _ hm
  have lt1 : ∀ x ∈ p1, x.block < W.heap.size := by obtain ⟨m, hm⟩ := h1; exact DataW.trod_lt m _ _ _ hm
  obtain ⟨e0, b0, w0⟩ : ∃ e : List (Nat × Nat), okW e ∧ RepD W NoM (.list 2 (e.map dW)) v0 := by
    obtain ⟨c, ⟨e, he, rfl⟩, hr⟩ := sl_arg Tryz.underlying97 opn_pokes (hval 0 97 v0 rfl rfl) h0
    exact ⟨e, he, RepA.one' hr⟩
  obtain ⟨e1, w1⟩ : ∃ e : List Int, RepD W NoM (.list 1 (e.map (D.int .u32))) v1 := by
    obtain ⟨c, ⟨e, rfl⟩, hr⟩ := sl_arg Tryz.underlying98 opn_u32s (hval 1 98 v1 rfl rfl) h1
    exact ⟨e, RepA.one' hr⟩
  clear hA0 hval0
  refine ((networkPeeks_fn [] e0 b0 e1) W NoM [v0, v1] (fun _ _ h => h.elim) ⟨_, _, rfl, w0, _, _, rfl, w1, rfl⟩ (fun g cs h => by cases h)).mono fun e W' he => ?_
  obtain ⟨v, x, rfl, _, rfl, bel, hr⟩ := he
  obtain rfl : x = .bool true := hr
  exact ⟨_, rfl, _, _, _, [], _, [], hW', trodAll_mk1 (shut_bool Tryz.underlying4 _), (trodAll_cons_mk (Below.trod laid_out (by kernel_rfl) (of_decide_eq_true (by kernel_rfl)) h0 bel lt0) (trodAll_cons_mk (Below.trod laid_out (by kernel_rfl) (of_decide_eq_true (by kernel_rfl)) h1 bel lt1) trodAll_mk0)), rfl, bel.frame _, fun h => by cases h⟩
end
end Go.Proofs.YtjhbglklcddekaaGreatDoor
