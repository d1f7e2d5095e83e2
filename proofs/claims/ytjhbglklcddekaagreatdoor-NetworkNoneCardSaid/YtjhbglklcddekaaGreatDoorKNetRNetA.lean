/- Parts: RNNetA. -/
import Derived.Test.YtjhbglklcddekaaGreatDoorQ39
import Derived.Test.YtjhbglklcddekaaGreatDoorQ45
set_option linter.all false
set_option maxRecDepth 100000
set_option maxHeartbeats 16000000
namespace Go.Proofs.YtjhbglklcddekaaGreatDoor
open Go.RowKit Go.Proofs.Tryz
section
open Go.ChangeShapes Go.WideShapes Go.ChangeAt Go.RowKit Nd
set_option maxRecDepth 100000 in
theorem NNet_lifted (os : Os) (started : os.Started) (H : Type) (enc : TypeId × Value → H) :
    ReturnsInHanded {} Tryz.checked os 5 .any (fun w args => (Rows.networkNoneSpec.pre enc prog Tryz.f5 [] false w args ∧ laidMetH prog laid3 w) ∧ sizedMet enc prog Tryz.f5 (OpenSpec.ofChange Rows.networkNoneSpec) false w args)
      (Rows.networkNoneSpec.post enc prog Tryz.f5 false true false false) := by
  refine returnsInHanded_of_change_and (C := Tryz.checked) (X := fun w _ => laidMetH prog laid3 w) (fun _ _ _ hh h => h.of_heap hh) own_knob started (by kernel_rfl) func5
    (ChangeSpec.witness_shaped (enc := enc) (C := Tryz.checked) (os := os) (X := fun w _ => laidMetH prog laid3 w) false (World.doorLaid prog 38 os) #[.slice none 0 0, .int .u32 0, .int .i64 0] 8 rfl (World.shaped_of_RefB (by kernel_rfl) (by kernel_rfl)) (by kernel_rfl) (by kernel_rfl) (by kernel_rfl) (door_met os _)) ?_
  intro W base args ds gs before hval0 hW _ _ hL _
  have hval : ∀ (j : Nat) t v, Tryz.f5.params[j]? = some t → args[j]? = some v → Value.okWide prog W .any base t v := hval0
  have hW' := hW
  obtain ⟨p, q, hA0, hV, rfl, hfz, hnd⟩ := hW
  have hA : DataW.TrodAll enc prog W 0 (fun _ => true) true Tryz.f5.params.toList args.toList ds p := hA0
  rw [Tryz.params5] at hA hval
  obtain ⟨v0, vs0, d0, ds0, p0, q0, hargs, rfl, rfl, h0, r0⟩ := trodAll_cons hA
  obtain ⟨v1, vs1, d1, ds1, p1, q1, rfl, rfl, rfl, h1, r1⟩ := trodAll_cons r0
  obtain ⟨v2, vs2, d2, ds2, p2, q2, rfl, rfl, rfl, h2, r2⟩ := trodAll_cons r1
  obtain ⟨rfl, rfl, rfl⟩ := trodAll_nil r2
  obtain rfl : args = #[v0, v1, v2] := by cases args; simp_all
  obtain ⟨rfl, rfl⟩ := trodVars_none hV
  have lt0 : ∀ x ∈ p0, x.block < W.heap.size := by obtain ⟨m, hm⟩ := h0; exact DataW.trod_lt m _ _ _ hm
  have lt1 : ∀ x ∈ p1, x.block < W.heap.size := by obtain ⟨m, hm⟩ := h1; exact DataW.trod_lt m _ _ _ hm
  have lt2 : ∀ x ∈ p2, x.block < W.heap.size := by obtain ⟨m, hm⟩ := h2; exact DataW.trod_lt m _ _ _ hm
  obtain ⟨e0, w0⟩ : ∃ e : List UInt8, RepD W NoM (.list 1 (dBs e)) v0 := by
    obtain ⟨c, ⟨e, rfl⟩, hr⟩ := sl_arg Tryz.underlying23 opn_bytes (hval 0 23 v0 rfl rfl) h0
    exact ⟨e, RepA.one' hr⟩
  obtain ⟨e1, w1⟩ : ∃ e : Int, RepD W NoM (.int .u32 e) v1 := by
    obtain ⟨i, rfl, _⟩ := open_int Tryz.underlying77 (hval 1 77 v1 rfl rfl) h1
    exact ⟨i, rfl⟩
  obtain ⟨e2, w2⟩ : ∃ e : Int, RepD W NoM (.int .i64 e) v2 := by
    obtain ⟨i, rfl, _⟩ := open_int Tryz.underlying3 (hval 2 3 v2 rfl rfl) h2
    exact ⟨i, rfl⟩
  clear hA0 hval0
  refine ((networkNone_fn [] e0 e1 e2) W NoM [v0, v1, v2] (fun _ _ h => h.elim) ⟨_, _, rfl, w0, _, _, rfl, w1, _, _, rfl, w2, rfl⟩ (fun g cs h => by cases h)).mono fun e W' he => ?_
  obtain ⟨v, x, rfl, _, rfl, bel, hr⟩ := he
  obtain rfl : x = .bool true := hr
  exact ⟨_, rfl, _, _, _, [], _, [], hW', trodAll_mk1 (shut_bool Tryz.underlying4 _), (trodAll_cons_mk (Below.trod laid_out (by kernel_rfl) (of_decide_eq_true (by kernel_rfl)) h0 bel lt0) (trodAll_cons_mk (Below.trod laid_out (by kernel_rfl) (of_decide_eq_true (by kernel_rfl)) h1 bel lt1) (trodAll_cons_mk (Below.trod laid_out (by kernel_rfl) (of_decide_eq_true (by kernel_rfl)) h2 bel lt2) trodAll_mk0))), rfl, bel.frame _, fun h => by cases h⟩
end
end Go.Proofs.YtjhbglklcddekaaGreatDoor
