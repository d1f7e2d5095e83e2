/- Parts: N31, RowO. -/
import Derived.Test.YtjhbglklcddekaaGreatDoorV28
import Derived.Test.YtjhbglklcddekaaGreatDoorV27
import Derived.Test.YtjhbglklcddekaaGreatDoorV30
set_option linter.all false
set_option maxRecDepth 100000
set_option maxHeartbeats 16000000
namespace Go.Proofs.YtjhbglklcddekaaGreatDoor
open Go.RowKit Go.Proofs.Tryz
section
open Go.RowKit Nd
namespace Nd
def dW (x : Nat × Nat) : D := .agg [.int .i32 (s32 x.1), .int .i32 (s32 x.2)]
theorem put_len (m : List UInt8) (i : Nat) (x : List UInt8) (h : i + x.length ≤ m.length) : (put m i x).length = m.length := by
  unfold put
  simp only [List.length_append, List.length_take, List.length_drop]
  omega
theorem setWord_len (m : List UInt8) (a v : Nat) (h : m.length % 4 = 0) : (setWord m a v).length = m.length := by
  unfold setWord
  split
  · exact put_len _ _ _ (by rw [four_len]; omega)
  · rfl
theorem foldl_last {α β : Type} (f : β → α → β) (b : β) (l : List α) (x : α) : (l ++ [x]).foldl f b = f (l.foldl f b) x := by simp
theorem memW_app (m : List UInt8) (l : List (Nat × Nat)) (x : Nat × Nat) : memW m (l ++ [x]) = setWord (memW m l) x.1 x.2 := foldl_last _ m l x
theorem memW_cons (m : List UInt8) (x : Nat × Nat) (l : List (Nat × Nat)) : memW m (x :: l) = memW (setWord m x.1 x.2) l := List.foldl_cons ..
theorem wantW_cons (m : List UInt8) (x : Nat × Nat) (l : List (Nat × Nat)) : wantW m (x :: l) = four (wordAt (setWord m x.1 x.2) x.1) ++ wantW (setWord m x.1 x.2) l := by simp only [wantW]
theorem memW_len : ∀ (l : List (Nat × Nat)) (m : List UInt8), m.length % 4 = 0 → (memW m l).length = m.length
  | [], _, _ => rfl
  | x :: l, m, h => by
    have h1 := setWord_len m x.1 x.2 h
    rw [memW_cons, memW_len l _ (by rw [h1]; exact h), h1]
theorem wantW_app : ∀ (l : List (Nat × Nat)) (m : List UInt8) (x : Nat × Nat), wantW m (l ++ [x]) = wantW m l ++ four (wordAt (setWord (memW m l) x.1 x.2) x.1)
  | [], m, x => by rw [List.nil_append, wantW_cons]; exact List.append_nil _
  | y :: l, m, x => by
    rw [List.cons_append, wantW_cons, wantW_app l, wantW_cons, memW_cons, List.append_assoc]
theorem wordB_app (l : List (Nat × Nat)) (x : Nat × Nat) : (l ++ [x]).flatMap wordB = l.flatMap wordB ++ wordB x := by simp
theorem wordB_d (x : Nat × Nat) (g : List D) : g ++ [.int .u8 0] ++ dBs (four x.1) ++ dBs (four x.2) ++ [.int .u8 1] ++ dBs (four x.1) = g ++ dBs (wordB x) := by
  unfold wordB
  simp only [dBs, List.map_append, List.map_cons, List.append_assoc, List.cons_append, List.nil_append]
  rfl
theorem wordB_len (x : Nat × Nat) : (wordB x).length = 14 := rfl
theorem words_len (l : List (Nat × Nat)) : (l.flatMap wordB).length = 14 * l.length := by
  induction l with
  | nil => rfl
  | cons x l ih => rw [List.flatMap_cons, List.length_append, ih, wordB_len, List.length_cons]; omega
theorem wantW_len : ∀ (l : List (Nat × Nat)) (m : List UInt8), (wantW m l).length = 4 * l.length
  | [], _ => rfl
  | x :: l, m => by
    rw [wantW_cons, List.length_append, wantW_len l, four_len, List.length_cons]
    omega
end Nd
theorem fits_new {k : Nat} (hk : k < 4) : (new 1024).fits k lk0 := by
  refine ⟨?_, ok0, fun h => (by cases h), .inl rfl, rfl, List.length_replicate, fun h => absurd rfl h, fun _ => ⟨rfl, rfl⟩, fun h => ?_, fun h => absurd rfl h⟩
  · rcases four_k hk with rfl | rfl | rfl | rfl <;> rfl
  · have : (-1 : Int) = (k : Int) := h
    omega
end
section
open Go.ChangeShapes Go.WideShapes Go.ChangeAt Go.RowKit Nd
theorem i32_of {n : Int} (h : (Lit.int .i32 n).wf = true) : -2147483648 ≤ n ∧ n ≤ 2147483647 := by simpa [Lit.wf, IntKind.min, IntKind.max, IntKind.signed, IntKind.bits] using h
theorem s32_any {n : Int} (h : (Lit.int .i32 n).wf = true) : ∃ m : Nat, m < 4294967296 ∧ s32 m = n := by
  have := i32_of h
  refine ⟨(n % 4294967296).toNat, by omega, ?_⟩
  unfold s32
  split <;> omega
theorem list_of {α : Type} {p : α → Prop} {G : List D → Prop} {f : α → D} {sz : Nat} (hf : ∀ ds, G ds → ∃ a, p a ∧ .agg ds = f a) : ∀ xs : List (List D), (∀ x ∈ xs, G x ∧ x.length = sz) → ∃ l : List α, (∀ a ∈ l, p a) ∧ xs.map (datOf false) = l.map f
  | [], _ => ⟨[], by simp, rfl⟩
  | x :: xs, h => by
    obtain ⟨a, hp, ha⟩ := hf x (h x (by simp)).1
    obtain ⟨l, hl1, hl⟩ := list_of hf xs (fun y hy => h y (by simp [hy]))
    exact ⟨a :: l, by simpa using ⟨hp, hl1⟩, by rw [List.map_cons, List.map_cons, hl, ← ha]; rfl⟩
theorem one_arg {H : Type} {enc : TypeId × Value → H} {w : World} {d : DataW H} {ps : List MemPlace} {t : TypeId} {G : List D → Prop} {sp : Nat → Bool} {hd : Bool} {a : Option Addr} {l c : Nat} (ho : Opn prog t G) (h : DataW.Trod enc prog w 0 sp hd t (.slice a l c) d ps) :
    ∃ ds, G ds ∧ RepA w NoM ds [.slice a l c] := by
  obtain ⟨f, hf⟩ := h
  exact ho _ _ _ _ _ _ _ _ _ (by simpa [Value.cells] using hf)
theorem RepA.one' {w : World} {M : Nat → Nat → Prop} {x : D} {v : Value} (h : RepA w M [x] [v]) : RepD w M x v := by
  obtain ⟨_, _, e, _, h3, _⟩ := h
  simp at e
  rw [e.1]
  exact h3
theorem sl_arg {H : Type} {enc : TypeId × Value → H} {w : World} {v : Value} {d : DataW H} {ps : List MemPlace} {t e : TypeId} {G : List D → Prop} {b0 : Nat} {sp : Nat → Bool} {hd : Bool} (ht : prog.underlying t = some (.slice e)) (ho : Opn prog t G)
    (hv : Value.okWide prog w .any b0 t v) (h : DataW.Trod enc prog w 0 sp hd t v d ps) : ∃ ds, G ds ∧ RepA w NoM ds [v] := by
  obtain ⟨a, l, c, rfl⟩ := okWide_slice ht hv
  exact one_arg ho h
end
end Go.Proofs.YtjhbglklcddekaaGreatDoor
