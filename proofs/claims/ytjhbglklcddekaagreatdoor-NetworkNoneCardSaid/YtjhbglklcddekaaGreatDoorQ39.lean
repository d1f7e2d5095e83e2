/- Parts: N31, RowO. -/
import Derived.Test.YtjhbglklcddekaaGreatDoorQ34
import Derived.Test.YtjhbglklcddekaaGreatDoorQ33
import Derived.Test.YtjhbglklcddekaaGreatDoorQ38
set_option linter.all false
set_option maxRecDepth 100000
set_option maxHeartbeats 16000000
namespace Go.Proofs.YtjhbglklcddekaaGreatDoor
open Go.RowKit Go.Proofs.Tryz
section
open Go.RowKit Nd
namespace Nd
end Nd
theorem fits_new {k : Nat} (hk : k < 4) : (new 1024).fits k lk0 := by
  refine ⟨?_, ok0, fun h => (by cases h), .inl rfl, rfl, List.length_replicate, fun h => absurd rfl h, fun _ => ⟨rfl, rfl⟩, fun h => ?_, fun h => absurd rfl h⟩
  · rcases four_k hk with rfl | rfl | rfl | rfl <;> rfl
  · have : (-1 : Int) = (k : Int) := h
    omega
end
section
open Go.ChangeShapes Go.WideShapes Go.ChangeAt Go.RowKit Nd
theorem u8_of {n : Int} (h : (Lit.int .u8 n).wf = true) : 0 ≤ n ∧ n ≤ 255 := by simpa [Lit.wf, IntKind.min, IntKind.max, IntKind.signed, IntKind.bits] using h
theorem opn_bytes : Opn prog 23 (fun ds => ∃ l : List UInt8, ds = [.list 1 (dBs l)]) :=
  (opn_slice true 1 Tryz.underlying23 (by kernel_rfl) (fun _ => rfl) (opn_int Tryz.underlying5)).mono fun ds ⟨xs, e, h, _⟩ => by
    have : ∀ xs : List (List D), (∀ x ∈ xs, (∃ n, x = [.int .u8 n] ∧ (Lit.int .u8 n).wf = true) ∧ x.length = 1) → ∃ l : List UInt8, xs.map (datOf true) = dBs l := by
      intro xs
      induction xs with
      | nil => intro _; exact ⟨[], rfl⟩
      | cons x xs ih =>
        intro h
        obtain ⟨⟨n, rfl, hw⟩, _⟩ := h x (by simp)
        obtain ⟨l, hl⟩ := ih (fun y hy => h y (by simp [hy]))
        have hb := u8_of hw
        refine ⟨UInt8.ofNat n.toNat :: l, ?_⟩
        rw [List.map_cons, hl]
        show _ = dB _ :: dBs l
        congr 1
        simp only [datOf, dB, UInt8.toNat_ofNat']
        congr 1
        omega
    obtain ⟨l, hl⟩ := this xs h
    exact ⟨l, by rw [e, hl]⟩
theorem one_arg {H : Type} {enc : TypeId × Value → H} {w : World} {d : DataW H} {ps : List MemPlace} {t : TypeId} {G : List D → Prop} {sp : Nat → Bool} {hd : Bool} {a : Option Addr} {l c : Nat} (ho : Opn prog t G) (h : DataW.Trod enc prog w 0 sp hd t (.slice a l c) d ps) :
    ∃ ds, G ds ∧ RepA w NoM ds [.slice a l c] := by
  obtain ⟨f, hf⟩ := h
  exact ho _ _ _ _ _ _ _ _ _ (by simpa [Value.cells] using hf)
theorem RepA.one' {w : World} {M : Nat → Nat → Prop} {x : D} {v : Value} (h : RepA w M [x] [v]) : RepD w M x v := by
  obtain ⟨_, _, e, _, h3, _⟩ := h
  simp at e
  rw [e.1]
  exact h3
theorem sl_arg {H : Type} {enc : TypeId × Value → H} {w : World} {v : Value} {d : DataW H} {ps : List MemPlace} {t e : TypeId} {G : List D → Prop} {b0 : Nat} {sp : Nat → Bool} {hd : Bool} (ht : prog.underlying t = some (.slice e)) (ho : Opn prog t G)
    (hv : Value.okWide prog w .any b0 t v) (h : DataW.Trod enc prog w 0 sp hd t v d ps) : ∃ ds, G ds ∧ RepA w NoM ds [v] := by
  obtain ⟨a, l, c, rfl⟩ := okWide_slice ht hv
  exact one_arg ho h
end
end Go.Proofs.YtjhbglklcddekaaGreatDoor
