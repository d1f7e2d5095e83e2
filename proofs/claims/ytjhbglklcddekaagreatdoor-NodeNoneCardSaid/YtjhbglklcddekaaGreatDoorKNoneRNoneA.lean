/- Parts: RNNoneA. -/
import Derived.Test.YtjhbglklcddekaaGreatDoorP43
import Derived.Test.YtjhbglklcddekaaGreatDoorP42
set_option linter.all false
set_option maxRecDepth 100000
set_option maxHeartbeats 16000000
namespace Go.Proofs.YtjhbglklcddekaaGreatDoor
open Go.RowKit Go.Proofs.Tryz
section
open Go.ChangeShapes Go.WideShapes Go.ChangeAt Go.RowKit
set_option maxRecDepth 100000 in
theorem NNone_lifted (os : Os) (started : os.Started) (H : Type) (enc : TypeId × Value → H) :
    ReturnsInHanded {} Tryz.checked os 4 .any (fun w args => (Rows.nodeNoneSpec.pre enc prog Tryz.f4 [] false w args ∧ laidMetH prog laid3 w) ∧ sizedMet enc prog Tryz.f4 (OpenSpec.ofChange Rows.nodeNoneSpec) false w args)
      (Rows.nodeNoneSpec.post enc prog Tryz.f4 false true false false) := by
  refine returnsInHanded_of_change_and (C := Tryz.checked) (X := fun w _ => laidMetH prog laid3 w) (fun _ _ _ hh h => h.of_heap hh) own_knob started (by kernel_rfl) func4
    (ChangeSpec.witness_shaped (enc := enc) (C := Tryz.checked) (os := os) (X := fun w _ => laidMetH prog laid3 w) false (World.doorLaid prog 38 os) #[.agg #[.int .u8 0, .int .i64 0, .int .i64 0]] 8 rfl (World.shaped_of_RefB (by kernel_rfl) (by kernel_rfl)) (by kernel_rfl) (by kernel_rfl) (by kernel_rfl) (door_met os _)) ?_
  intro W base args ds gs before hval0 hW _ _ hL _
  have hval : ∀ (j : Nat) t v, Tryz.f4.params[j]? = some t → args[j]? = some v → Value.okWide prog W .any base t v := hval0
  have hW' := hW
  obtain ⟨p, q, hA0, hV, rfl, hfz, hnd⟩ := hW
  have hA : DataW.TrodAll enc prog W 0 (fun _ => true) true Tryz.f4.params.toList args.toList ds p := hA0
  rw [Tryz.params4] at hA hval
  obtain ⟨v0, vs0, d0, ds0, p0, q0, hargs, rfl, rfl, h0, r0⟩ := trodAll_cons hA
  obtain ⟨rfl, rfl, rfl⟩ := trodAll_nil r0
  obtain rfl : args = #[v0] := by cases args; simp_all
  obtain ⟨rfl, rfl⟩ := trodVars_none hV
  have lt0 : ∀ x ∈ p0, x.block < W.heap.size := by obtain ⟨m, hm⟩ := h0; exact DataW.trod_lt m _ _ _ hm
  obtain ⟨e0, e1, e2, w0⟩ : ∃ a k b : Int, RepD W NoM (.agg [.int .u8 a, .int .i64 k, .int .i64 b]) v0 := by
    obtain ⟨c, ⟨a, k, b, rfl⟩, hr⟩ := agg_arg Tryz.underlying65 opn_deed (hval 0 65 v0 rfl rfl) h0
    exact ⟨a, k, b, hr⟩
  clear hA0 hval0
  refine ((nodeNone_fn [] e0 e1 e2) W NoM [v0] (fun _ _ h => h.elim) ⟨_, _, rfl, w0, rfl⟩ (fun g cs h => by cases h)).mono fun e W' he => ?_
  obtain ⟨v, x, rfl, _, rfl, bel, hr⟩ := he
  obtain rfl : x = .bool true := hr
  exact ⟨_, rfl, _, _, _, [], _, [], hW', trodAll_mk1 (shut_bool Tryz.underlying4 _), (trodAll_cons_mk (Below.trod laid_out (by kernel_rfl) (of_decide_eq_true (by kernel_rfl)) h0 bel lt0) trodAll_mk0), rfl, bel.frame _, fun h => by cases h⟩
end
end Go.Proofs.YtjhbglklcddekaaGreatDoor
