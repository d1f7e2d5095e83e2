/- Parts: D36, T, D37, D38, D39, D40. -/
import Derived.Test.YtjhbglklcddekaaGreatDoorV12
import Derived.LoopNIn
import Derived.Test.YtjhbglklcddekaaGreatDoorProg
import Derived.Laws.CopyRow
import Derived.Scope
set_option linter.all false
set_option maxRecDepth 100000
set_option maxHeartbeats 16000000
namespace Go.Proofs.YtjhbglklcddekaaGreatDoor
open Go.RowKit Go.Proofs.Tryz
section
section
variable {E : Set} {Q : Exit → Sd → Prop}
def Rounds (E : Set) (c : Code) (Q : Exit → Sd → Prop) : Nat → Sd → Prop
  | 0, _ => False
  | m + 1, S => TC E c (Exit.thenD (Rounds E c Q m) Q) S
theorem rounds_in {c : Code} : ∀ (m : Nat) (S : Sd), Rounds E c Q m S → ∀ a w, St E.C S a w → Code.roundsIn (WF E.rd) 0 E.P c (Qof E.C Q) m a w
  | 0, _, h, _, _, _ => h.elim
  | m + 1, S, h, a, w, hS => by
    rw [roundsIn_succ]
    refine wpIn_mono (h a w hS) fun e a' w' ⟨S', h1, h2⟩ => ?_
    cases e
    case normal => exact rounds_in m S' h2 a' w' h1
    all_goals exact ⟨S', h1, h2⟩
theorem tc_rounds {c : Code} {S : Sd} (m : Nat) (h : Rounds E c Q m S) : TC E (.loop c) Q S := fun a w hS => wpIn_loop_rounds m (rounds_in m S h a w hS)
theorem rounds_next {c : Code} {m : Nat} {S : Sd} (h : ∀ K : Sd → Prop, (∀ S, Rounds E c Q m S → K S) → TC E c (Exit.thenD K Q) S) : Rounds E c Q (m + 1) S := h _ fun _ h => h
end
section
variable {E : Set} {dst : Option Tmp} {ty : TypeId} {pos : String} {af : Array Edge} {gd : Option (Nat × Bool)}
theorem run_slice3 {P : Program} {t e sz : Nat} (ht : TSlice P t e sz) (a : Option Addr) (n c l m x : Nat) (k k' k'' : IntKind) (h1 : l ≤ m) (h2 : m ≤ x) (h3 : x ≤ c) (w : World) :
    (Instr.slice t (.slice a n c) (some (.int k (l : Nat))) (some (.int k' (m : Nat))) (some (.int k'' (x : Nat)))).run P w = .ok (.slice (if x = l then a else a.map (·.add (l * sz))) (m - l) (x - l)) w := by
  obtain ⟨ie, hu, hie, hs, hpos⟩ := slice_parts ht
  have hb : (Instr.sliceBounds true n c (some (.int k (l : Nat))) (some (.int k' (m : Nat))) (some (.int k'' (x : Nat)))).run P w = .ok (l, m, x) w := by
    have e1 : (l : Int) ≤ (m : Int) := by omega
    have e2 : (m : Int) ≤ (x : Int) := by omega
    have e3 : (x : Int) ≤ (c : Int) := by omega
    simp [Instr.sliceBounds, Instr.sliceBound, asIntOf, show ¬ m < l by omega, show ¬ x < m by omega, show ¬ c < x by omega, h1, h2, h3]
  simp [run_underlying hu, Instr.slice, hb, run_size hie, hs]
theorem q_slice3 {S : Sd} {t e sz n k p m e' : Nat} {sh : Bool} {xs : List D} {x lo hi mx : Operand} {k1 k2 k3 : IntKind} {v1 v2 v3 : Int} [ht : TSlice E.P t e sz] (hx : S.ev x = some (.own n k)) (hox : okOp x = true) (hl : look n S.H = some (.row e' sz sh xs k))
    (hlo : S.ev lo = some (.d (.int k1 v1))) (hol : okOp lo = true) (hhi : S.ev hi = some (.d (.int k2 v2))) (hoh : okOp hi = true) (hmx : S.ev mx = some (.d (.int k3 v3))) (hom : okOp mx = true) (e1 : v1 = (p : Nat)) (e2 : v2 = ((p + m : Nat) : Int)) (e3 : v3 = ((p + m : Nat) : Int)) (hle : p + m ≤ xs.length) :
    Swift E S ⟨dst, .slice t x (some lo) (some hi) (some mx), ty, pos, af, gd⟩ (.win n k p m) := Swift.mk fun β a w h => by
  subst e1 e2 e3
  obtain ⟨ad, c, h4, h5, h6, h7⟩ := h.row_shape hl
  have hv : a.eval x = (β n).v := h.ev hx hox e' sz sh xs hl
  have g1 : a.eval lo = .int k1 (p : Nat) := h.ev hlo hol
  have g2 : a.eval hi = .int k2 ((p + m : Nat) : Int) := h.ev hhi hoh
  have g3 : a.eval mx = .int k3 ((p + m : Nat) : Int) := h.ev hmx hom
  refine ⟨.slice (if p + m = p then ad else ad.map (·.add (p * sz))) (p + m - p) (p + m - p), fun w' _ => ?_, fun e2 sz2 sh2 xs2 hl2 => ?_⟩
  · have := run_slice3 (P := E.P) ht ad xs.length c p (p + m) (p + m) k1 k2 k3 (by omega) (Nat.le_refl _) (by omega) w'
    obtain ⟨ie, hu, _⟩ := slice_parts ht
    rw [Int.natCast_add] at this g2 g3
    simp [execOp, Instr.sliceAt, hv, h4, g1, g2, g3, this, run_underlying hu]
  · rw [hl] at hl2
    cases hl2
    refine ⟨ad, xs.length, c, _, _, h4, hle, by rw [Nat.add_sub_cancel_left], Nat.le_of_eq (by omega), fun hne => ?_⟩
    rw [if_neg (by omega)]
theorem q_len_win {S : Sd} {t e sz n k p m e' sz' : Nat} {sh : Bool} {xs : List D} {x : Operand} [ht : TSlice E.P t e sz] (hx : S.ev x = some (.win n k p m)) (hox : okOp x = true) (hl : look n S.H = some (.row e' sz' sh xs k)) : Swift E S ⟨dst, .call { callee := .builtin .len, args := #[x], argTypes := #[t] }, ty, pos, af, gd⟩ (.d (.int .i64 (m : Nat))) := Swift.mk fun β a w h => by
  obtain ⟨ie, hu, _⟩ := slice_parts ht
  obtain ⟨ad, ll, c, ad1, c1, h1, h2, h3, _⟩ := h.ev hx hox e' sz' sh xs hl
  refine ⟨.int .i64 (m : Int), fun w' _ => ?_, rfl⟩
  simp [execOp, resolve, invoke, builtin, h3, Builtin.len_, goInt, run_underlying hu]
theorem q_index_win {S : Sd} {t e sz i n k' e' p m : Nat} {sh : Bool} {x y : Operand} {xs : List D} {k : IntKind} {v : Int} [ht : TSlice E.P t e sz] (hx : S.ev x = some (.win n k' p m)) (hl : look n S.H = some (.row e' sz sh xs k')) (hy : S.ev y = some (.d (.int k v))) (hox : okOp x = true) (hoy : okOp y = true) (hi : v = (i : Nat)) (hz : i < m) :
    Swift E S ⟨dst, .indexAddr t x y, ty, pos, af, gd⟩ (.el n k' (p + i) 0) := Swift.mk fun β a w h => by
  subst hi
  obtain ⟨ad, ll, c, ad1, c1, h1, h2, h3, h3', h4⟩ := h.ev hx hox e' sz sh xs hl
  obtain ⟨ys, h2', _⟩ := h.obs n _ hl
  have h5 : a.eval y = .int k (i : Nat) := h.ev hy hoy
  rcases h2'.2 with ⟨q1, q2⟩ | ⟨g, cap, cur, q, _, _, q3, _⟩
  · rw [h1] at q1
    simp only [Value.slice.injEq] at q1
    omega
  · rw [h1] at q
    simp only [Value.slice.injEq] at q
    obtain ⟨rfl, rfl, rfl⟩ := q
    have h6 : a.eval x = .slice (some ⟨g, p * sz, none⟩) m c1 := by rw [h3, h4 (by omega)]; simp [add_flat]
    refine ⟨.pointer (some ⟨g, (p + i) * sz, none⟩), fun w' _ => ?_, fun e2 sz2 sh2 xs2 hl2 => ?_⟩
    · have := run_indexAt (P := E.P) ht (b := g) (o := p * sz) (n := m) (c := c1) (k := k) (i := i) hz w'
      rw [Nat.add_mul]
      simp [execOp, h6, h5, this]
    · rw [hl] at hl2
      cases hl2
      exact ⟨g, _, c, h1, rfl⟩
end
end
section
instance : TCell prog 3 := ⟨by kernel_rfl⟩
instance : TSize prog 3 1 := ⟨by kernel_rfl⟩
instance : TInt prog 3 .i64 := ⟨by kernel_rfl⟩
instance : TZero prog 3 [.d (.int .i64 0)] := ⟨by kernel_rfl⟩
instance : TCell prog 4 := ⟨by kernel_rfl⟩
instance : TSize prog 4 1 := ⟨by kernel_rfl⟩
instance : TCell prog 5 := ⟨by kernel_rfl⟩
instance : TSize prog 5 1 := ⟨by kernel_rfl⟩
instance : TInt prog 5 .u8 := ⟨by kernel_rfl⟩
instance : TStr prog 9 := ⟨by kernel_rfl⟩
instance : TCell prog 21 := ⟨by kernel_rfl⟩
instance : TSize prog 21 1 := ⟨by kernel_rfl⟩
instance : TInt prog 21 .i32 := ⟨by kernel_rfl⟩
instance : TCell prog 23 := ⟨by kernel_rfl⟩
instance : TSize prog 23 1 := ⟨by kernel_rfl⟩
instance : TSlice prog 23 5 1 := ⟨by kernel_rfl⟩
instance : TCell prog 25 := ⟨by kernel_rfl⟩
instance : TSize prog 25 1 := ⟨by kernel_rfl⟩
instance : TCell prog 29 := ⟨by kernel_rfl⟩
instance : TSize prog 29 1 := ⟨by kernel_rfl⟩
instance : TInt prog 29 .u16 := ⟨by kernel_rfl⟩
instance : TAgg prog 31 7 := ⟨by kernel_rfl⟩
instance : TSize prog 31 7 := ⟨by kernel_rfl⟩
instance : TStruct prog 31 := ⟨by kernel_rfl⟩
instance : TField prog 31 0 0 29 := ⟨by kernel_rfl⟩
instance : TField prog 31 1 1 3 := ⟨by kernel_rfl⟩
instance : TField prog 31 2 2 4 := ⟨by kernel_rfl⟩
instance : TField prog 31 3 3 4 := ⟨by kernel_rfl⟩
instance : TField prog 31 4 4 5 := ⟨by kernel_rfl⟩
instance : TField prog 31 5 5 3 := ⟨by kernel_rfl⟩
instance : TField prog 31 6 6 29 := ⟨by kernel_rfl⟩
instance : TEq prog 31 [1, 1, 0, 0, 1, 1, 1] := ⟨by kernel_rfl⟩
instance : TZero prog 31 [.d (.int .u16 0), .d (.int .i64 0), .d (.bool false), .d (.bool false), .d (.int .u8 0), .d (.int .i64 0), .d (.int .u16 0)] := ⟨by kernel_rfl⟩
instance : TAgg prog 45 2 := ⟨by kernel_rfl⟩
instance : TArray prog 45 2 21 1 := ⟨by kernel_rfl⟩
instance : TZero prog 45 [.d (.int .i32 0), .d (.int .i32 0)] := ⟨by kernel_rfl⟩
instance : TAgg prog 49 28 := ⟨by kernel_rfl⟩
instance : TSize prog 49 28 := ⟨by kernel_rfl⟩
instance : TField prog 49 6 6 4 := ⟨by kernel_rfl⟩
instance : TField prog 49 9 9 4 := ⟨by kernel_rfl⟩
instance : TField prog 49 10 10 45 := ⟨by kernel_rfl⟩
instance : TField prog 49 11 12 45 := ⟨by kernel_rfl⟩
instance : TField prog 49 12 14 45 := ⟨by kernel_rfl⟩
instance : TSize prog 51 29 := ⟨by kernel_rfl⟩
instance : TStruct prog 51 := ⟨by kernel_rfl⟩
instance : TField prog 51 0 0 49 := ⟨by kernel_rfl⟩
instance : TField prog 51 1 28 23 := ⟨by kernel_rfl⟩
instance : TZero prog 51 [.d (.int .i32 0), .d (.int .i32 0), .d (.int .i32 0), .d (.int .i32 0), .d (.int .i32 0), .d (.int .i64 0), .d (.bool false), .d (.bool false), .d (.bool false), .d (.bool false), .d (.int .i32 0), .d (.int .i32 0), .d (.int .i32 0), .d (.int .i32 0), .d (.int .i32 0), .d (.int .i32 0), .d (.int .i32 0), .d (.int .i32 0), .d (.int .i32 0), .d (.int .i32 0), .d (.bool false), .d (.int .i32 0), .d (.int .i32 0), .d (.int .i32 0), .d (.int .i32 0), .d (.int .i32 0), .d (.bool false), .d (.int .i32 0), .nils 1] := ⟨by kernel_rfl⟩
instance : TAgg prog 53 7 := ⟨by kernel_rfl⟩
instance : TSize prog 53 7 := ⟨by kernel_rfl⟩
instance : TStruct prog 53 := ⟨by kernel_rfl⟩
instance : TField prog 53 0 0 21 := ⟨by kernel_rfl⟩
instance : TField prog 53 4 4 4 := ⟨by kernel_rfl⟩
instance : TField prog 53 5 5 4 := ⟨by kernel_rfl⟩
instance : TField prog 53 6 6 5 := ⟨by kernel_rfl⟩
instance : TZero prog 53 [.d (.int .i32 0), .d (.int .i32 0), .d (.int .i32 0), .d (.int .i32 0), .d (.bool false), .d (.bool false), .d (.int .u8 0)] := ⟨by kernel_rfl⟩
instance : TAgg prog 55 21 := ⟨by kernel_rfl⟩
instance : TSize prog 55 21 := ⟨by kernel_rfl⟩
instance : TStruct prog 55 := ⟨by kernel_rfl⟩
instance : TField prog 55 0 0 53 := ⟨by kernel_rfl⟩
instance : TField prog 55 1 7 53 := ⟨by kernel_rfl⟩
instance : TField prog 55 2 14 31 := ⟨by kernel_rfl⟩
instance : TZero prog 55 [.d (.int .i32 0), .d (.int .i32 0), .d (.int .i32 0), .d (.int .i32 0), .d (.bool false), .d (.bool false), .d (.int .u8 0), .d (.int .i32 0), .d (.int .i32 0), .d (.int .i32 0), .d (.int .i32 0), .d (.bool false), .d (.bool false), .d (.int .u8 0), .d (.int .u16 0), .d (.int .i64 0), .d (.bool false), .d (.bool false), .d (.int .u8 0), .d (.int .i64 0), .d (.int .u16 0)] := ⟨by kernel_rfl⟩
instance : TAgg prog 56 84 := ⟨by kernel_rfl⟩
instance : TSize prog 56 84 := ⟨by kernel_rfl⟩
instance : TArray prog 56 4 55 21 := ⟨by kernel_rfl⟩
instance : TAgg prog 58 4 := ⟨by kernel_rfl⟩
instance : TSize prog 58 4 := ⟨by kernel_rfl⟩
instance : TStruct prog 58 := ⟨by kernel_rfl⟩
instance : TField prog 58 0 0 4 := ⟨by kernel_rfl⟩
instance : TField prog 58 1 1 3 := ⟨by kernel_rfl⟩
instance : TField prog 58 2 2 23 := ⟨by kernel_rfl⟩
instance : TField prog 58 3 3 23 := ⟨by kernel_rfl⟩
instance : TZero prog 58 [.d (.bool false), .d (.int .i64 0), .nils 1, .nils 1] := ⟨by kernel_rfl⟩
instance : TAgg prog 60 117 := ⟨by kernel_rfl⟩
instance : TSize prog 60 117 := ⟨by kernel_rfl⟩
instance : TStruct prog 60 := ⟨by kernel_rfl⟩
instance : TField prog 60 0 0 51 := ⟨by kernel_rfl⟩
instance : TField prog 60 1 29 56 := ⟨by kernel_rfl⟩
instance : TField prog 60 2 113 58 := ⟨by kernel_rfl⟩
instance : TCell prog 66 := ⟨by kernel_rfl⟩
instance : TSize prog 66 1 := ⟨by kernel_rfl⟩
instance : TCell prog 67 := ⟨by kernel_rfl⟩
instance : TSize prog 67 1 := ⟨by kernel_rfl⟩
instance : TSlice prog 67 144 5 := ⟨by kernel_rfl⟩
instance : TStruct prog 69 := ⟨by kernel_rfl⟩
instance : TField prog 69 0 0 49 := ⟨by kernel_rfl⟩
instance : TField prog 69 1 28 66 := ⟨by kernel_rfl⟩
instance : TField prog 69 2 29 56 := ⟨by kernel_rfl⟩
instance : TField prog 69 3 113 58 := ⟨by kernel_rfl⟩
instance : TField prog 69 4 117 67 := ⟨by kernel_rfl⟩
instance : TCell prog 77 := ⟨by kernel_rfl⟩
instance : TInt prog 77 .u32 := ⟨by kernel_rfl⟩
instance : TCell prog 78 := ⟨by kernel_rfl⟩
instance : TSize prog 78 1 := ⟨by kernel_rfl⟩
instance : TSlice prog 78 148 4 := ⟨by kernel_rfl⟩
instance : TAgg prog 80 2 := ⟨by kernel_rfl⟩
instance : TSize prog 80 2 := ⟨by kernel_rfl⟩
instance : TStruct prog 80 := ⟨by kernel_rfl⟩
instance : TField prog 80 0 0 3 := ⟨by kernel_rfl⟩
instance : TField prog 80 1 1 3 := ⟨by kernel_rfl⟩
instance : TEq prog 80 [1, 1] := ⟨by kernel_rfl⟩
instance : TZero prog 80 [.d (.int .i64 0), .d (.int .i64 0)] := ⟨by kernel_rfl⟩
instance : TAgg prog 82 4 := ⟨by kernel_rfl⟩
instance : TSize prog 82 4 := ⟨by kernel_rfl⟩
instance : TStruct prog 82 := ⟨by kernel_rfl⟩
instance : TField prog 82 0 0 3 := ⟨by kernel_rfl⟩
instance : TField prog 82 1 1 78 := ⟨by kernel_rfl⟩
instance : TField prog 82 2 2 80 := ⟨by kernel_rfl⟩
instance : TZero prog 82 [.d (.int .i64 0), .nils 4, .d (.int .i64 0), .d (.int .i64 0)] := ⟨by kernel_rfl⟩
instance : TCell prog 83 := ⟨by kernel_rfl⟩
instance : TSize prog 83 1 := ⟨by kernel_rfl⟩
instance : TSlice prog 83 25 1 := ⟨by kernel_rfl⟩
instance : TCell prog 84 := ⟨by kernel_rfl⟩
instance : TSize prog 84 1 := ⟨by kernel_rfl⟩
instance : TCell prog 85 := ⟨by kernel_rfl⟩
instance : TSize prog 85 1 := ⟨by kernel_rfl⟩
instance : TSlice prog 85 139 2 := ⟨by kernel_rfl⟩
instance : TStruct prog 87 := ⟨by kernel_rfl⟩
instance : TField prog 87 0 0 82 := ⟨by kernel_rfl⟩
instance : TField prog 87 1 4 83 := ⟨by kernel_rfl⟩
instance : TField prog 87 2 5 84 := ⟨by kernel_rfl⟩
instance : TField prog 87 3 6 85 := ⟨by kernel_rfl⟩
instance : TField prog 87 4 7 21 := ⟨by kernel_rfl⟩
instance : TZero prog 87 [.d (.int .i64 0), .nils 4, .d (.int .i64 0), .d (.int .i64 0), .nils 1, .d (.raw (.pointer none)), .nils 2, .d (.int .i32 0)] := ⟨by kernel_rfl⟩
instance : TCell prog 88 := ⟨by kernel_rfl⟩
instance : TSize prog 88 1 := ⟨by kernel_rfl⟩
instance : TZero prog 88 [.d (.raw (.pointer none))] := ⟨by kernel_rfl⟩
instance : TSlice prog 97 102 2 := ⟨by kernel_rfl⟩
instance : TSlice prog 98 77 1 := ⟨by kernel_rfl⟩
instance : TField prog 102 0 0 21 := ⟨by kernel_rfl⟩
instance : TField prog 102 1 1 21 := ⟨by kernel_rfl⟩
instance : TCell prog 104 := ⟨by kernel_rfl⟩
instance : TSize prog 104 1 := ⟨by kernel_rfl⟩
instance : TSlice prog 104 3 1 := ⟨by kernel_rfl⟩
instance : TZero prog 104 [.nils 1] := ⟨by kernel_rfl⟩
instance : TCell prog 119 := ⟨by kernel_rfl⟩
instance : TSize prog 119 1 := ⟨by kernel_rfl⟩
instance : TAgg prog 121 2 := ⟨by kernel_rfl⟩
instance : TSize prog 121 2 := ⟨by kernel_rfl⟩
instance : TStruct prog 121 := ⟨by kernel_rfl⟩
instance : TField prog 121 0 0 119 := ⟨by kernel_rfl⟩
instance : TField prog 121 1 1 5 := ⟨by kernel_rfl⟩
instance : TZero prog 121 [.d (.int .u8 0), .d (.int .u8 0)] := ⟨by kernel_rfl⟩
instance : TCell prog 128 := ⟨by kernel_rfl⟩
instance : TSize prog 128 1 := ⟨by kernel_rfl⟩
instance : TStruct prog 135 := ⟨by kernel_rfl⟩
instance : TField prog 135 0 0 31 := ⟨by kernel_rfl⟩
instance : TField prog 135 1 7 23 := ⟨by kernel_rfl⟩
instance : TField prog 135 2 8 23 := ⟨by kernel_rfl⟩
instance : TField prog 135 3 9 4 := ⟨by kernel_rfl⟩
instance : TZero prog 135 [.d (.int .u16 0), .d (.int .i64 0), .d (.bool false), .d (.bool false), .d (.int .u8 0), .d (.int .i64 0), .d (.int .u16 0), .nils 1, .nils 1, .d (.bool false)] := ⟨by kernel_rfl⟩
instance : TCell prog 138 := ⟨by kernel_rfl⟩
instance : TArray prog 139 2 138 1 := ⟨by kernel_rfl⟩
instance : TAgg prog 144 5 := ⟨by kernel_rfl⟩
instance : TSize prog 144 5 := ⟨by kernel_rfl⟩
instance : TStruct prog 144 := ⟨by kernel_rfl⟩
instance : TField prog 144 0 0 21 := ⟨by kernel_rfl⟩
instance : TField prog 144 1 1 3 := ⟨by kernel_rfl⟩
instance : TField prog 144 2 2 128 := ⟨by kernel_rfl⟩
instance : TField prog 144 3 3 21 := ⟨by kernel_rfl⟩
instance : TField prog 144 4 4 21 := ⟨by kernel_rfl⟩
instance : TZero prog 144 [.d (.int .i32 0), .d (.int .i64 0), .d (.int .u8 0), .d (.int .i32 0), .d (.int .i32 0)] := ⟨by kernel_rfl⟩
instance : TAgg prog 148 4 := ⟨by kernel_rfl⟩
instance : TSize prog 148 4 := ⟨by kernel_rfl⟩
instance : TField prog 148 0 0 80 := ⟨by kernel_rfl⟩
instance : TField prog 148 1 2 80 := ⟨by kernel_rfl⟩
instance : TZero prog 148 [.d (.int .i64 0), .d (.int .i64 0), .d (.int .i64 0), .d (.int .i64 0)] := ⟨by kernel_rfl⟩
instance : TStruct prog 150 := ⟨by kernel_rfl⟩
instance : TField prog 150 0 0 25 := ⟨by kernel_rfl⟩
instance : TField prog 150 1 1 3 := ⟨by kernel_rfl⟩
instance : TField prog 150 2 2 3 := ⟨by kernel_rfl⟩
instance : TZero prog 150 [.d (.raw (.pointer none)), .d (.int .i64 0), .d (.int .i64 0)] := ⟨by kernel_rfl⟩
instance : TStruct prog 156 := ⟨by kernel_rfl⟩
instance : TField prog 156 0 0 23 := ⟨by kernel_rfl⟩
instance : TZero prog 156 [.nils 1] := ⟨by kernel_rfl⟩
instance : TSlice prog 162 55 21 := ⟨by kernel_rfl⟩
instance : TCell prog 179 := ⟨by kernel_rfl⟩
instance : TCell prog 235 := ⟨by kernel_rfl⟩
instance : TSize prog 235 1 := ⟨by kernel_rfl⟩
instance : TStruct prog 237 := ⟨by kernel_rfl⟩
instance : TField prog 237 0 0 82 := ⟨by kernel_rfl⟩
instance : TField prog 237 1 4 235 := ⟨by kernel_rfl⟩
instance : TZero prog 237 [.d (.int .i64 0), .nils 4, .d (.int .i64 0), .d (.int .i64 0), .d (.raw (.map none))] := ⟨by kernel_rfl⟩
instance : TSize prog 276 8 := ⟨by kernel_rfl⟩
instance : TArray prog 276 8 4 1 := ⟨by kernel_rfl⟩
instance : TZero prog 276 [.d (.bool false), .d (.bool false), .d (.bool false), .d (.bool false), .d (.bool false), .d (.bool false), .d (.bool false), .d (.bool false)] := ⟨by kernel_rfl⟩
instance : TSlice prog 277 80 2 := ⟨by kernel_rfl⟩
instance : TZeroD prog 5 (.int .u8 0) := ⟨by kernel_rfl⟩
instance : TZeroD prog 3 (.int .i64 0) := ⟨by kernel_rfl⟩
instance : TMap prog 235 80 80 := ⟨by kernel_rfl⟩
instance : TKey prog 80 (.agg [1, 1]) := ⟨by kernel_rfl⟩
instance : TZeroD prog 80 (.agg [.int .i64 0, .int .i64 0]) := ⟨by kernel_rfl⟩
instance : TZeroV prog 80 (.d (.agg [.int .i64 0, .int .i64 0])) := ⟨by kernel_rfl⟩
instance : TFun prog 8 := ⟨by kernel_rfl⟩
instance : TFun prog 10 := ⟨by kernel_rfl⟩
instance : TFun prog 11 := ⟨by kernel_rfl⟩
instance : TFun prog 15 := ⟨by kernel_rfl⟩
instance : TFun prog 17 := ⟨by kernel_rfl⟩
instance : TFun prog 18 := ⟨by kernel_rfl⟩
instance : TFun prog 19 := ⟨by kernel_rfl⟩
instance : TFun prog 20 := ⟨by kernel_rfl⟩
instance : TFun prog 23 := ⟨by kernel_rfl⟩
instance : TFun prog 24 := ⟨by kernel_rfl⟩
instance : TFun prog 25 := ⟨by kernel_rfl⟩
instance : TFun prog 26 := ⟨by kernel_rfl⟩
instance : TFun prog 27 := ⟨by kernel_rfl⟩
instance : TFun prog 28 := ⟨by kernel_rfl⟩
instance : TFun prog 29 := ⟨by kernel_rfl⟩
instance : TFun prog 30 := ⟨by kernel_rfl⟩
instance : TFun prog 31 := ⟨by kernel_rfl⟩
instance : TFun prog 32 := ⟨by kernel_rfl⟩
instance : TFun prog 36 := ⟨by kernel_rfl⟩
instance : TFun prog 37 := ⟨by kernel_rfl⟩
instance : TFun prog 38 := ⟨by kernel_rfl⟩
instance : TFun prog 39 := ⟨by kernel_rfl⟩
instance : TFun prog 40 := ⟨by kernel_rfl⟩
instance : TFun prog 41 := ⟨by kernel_rfl⟩
instance : TFun prog 46 := ⟨by kernel_rfl⟩
instance : TFun prog 47 := ⟨by kernel_rfl⟩
instance : TFun prog 48 := ⟨by kernel_rfl⟩
instance : TFun prog 49 := ⟨by kernel_rfl⟩
instance : TFun prog 50 := ⟨by kernel_rfl⟩
instance : TFun prog 51 := ⟨by kernel_rfl⟩
instance : TFun prog 52 := ⟨by kernel_rfl⟩
instance : TFun prog 53 := ⟨by kernel_rfl⟩
instance : TFun prog 59 := ⟨by kernel_rfl⟩
instance : TFun prog 60 := ⟨by kernel_rfl⟩
instance : TFun prog 61 := ⟨by kernel_rfl⟩
instance : TFun prog 62 := ⟨by kernel_rfl⟩
instance : TFun prog 63 := ⟨by kernel_rfl⟩
instance : TFun prog 64 := ⟨by kernel_rfl⟩
instance : TFun prog 65 := ⟨by kernel_rfl⟩
instance : TFun prog 66 := ⟨by kernel_rfl⟩
instance : TFun prog 67 := ⟨by kernel_rfl⟩
instance : TFun prog 71 := ⟨by kernel_rfl⟩
instance : TFun prog 74 := ⟨by kernel_rfl⟩
instance : TFun prog 75 := ⟨by kernel_rfl⟩
instance : TFun prog 76 := ⟨by kernel_rfl⟩
instance : TFun prog 77 := ⟨by kernel_rfl⟩
instance : TFun prog 78 := ⟨by kernel_rfl⟩
instance : TFun prog 79 := ⟨by kernel_rfl⟩
instance : TFun prog 80 := ⟨by kernel_rfl⟩
instance : TFun prog 81 := ⟨by kernel_rfl⟩
instance : TFun prog 93 := ⟨by kernel_rfl⟩
instance : TFun prog 94 := ⟨by kernel_rfl⟩
instance : TFun prog 95 := ⟨by kernel_rfl⟩
instance : TFun prog 99 := ⟨by kernel_rfl⟩
instance : TFun prog 100 := ⟨by kernel_rfl⟩
instance : TFun prog 101 := ⟨by kernel_rfl⟩
instance : TFun prog 102 := ⟨by kernel_rfl⟩
instance : TFun prog 103 := ⟨by kernel_rfl⟩
instance : TFun prog 121 := ⟨by kernel_rfl⟩
instance : TFun prog 127 := ⟨by kernel_rfl⟩
instance : TFun prog 128 := ⟨by kernel_rfl⟩
instance : TFun prog 129 := ⟨by kernel_rfl⟩
instance : TFun prog 153 := ⟨by kernel_rfl⟩
instance : TFun prog 154 := ⟨by kernel_rfl⟩
instance : TFun prog 171 := ⟨by kernel_rfl⟩
instance : TFun prog 329 := ⟨by kernel_rfl⟩
instance : TFun prog 330 := ⟨by kernel_rfl⟩
instance : TFun prog 331 := ⟨by kernel_rfl⟩
instance : TFun prog 332 := ⟨by kernel_rfl⟩
instance : TFun prog 333 := ⟨by kernel_rfl⟩
instance : TFun prog 334 := ⟨by kernel_rfl⟩
theorem mixed : prog.follows .mixedOrders = true := by kernel_rfl
instance : TMixed prog := ⟨mixed⟩
end
section
def isPtrT (P : Program) (t : TypeId) : Bool := match P.underlying t with | some (.pointer _) => true | _ => false
inductive PtrIs : V → Bool → Prop
  | ptr (n off : Nat) : PtrIs (.ptr n off) false
  | ref (cs : List D) (off : Nat) : PtrIs (.d (.ref cs off)) false
  | nil : PtrIs (.d (.raw (.pointer none))) true
section
variable {E : Set} {S : Sd} {dst : Option Tmp} {ty : TypeId} {pos : String} {af : Array Edge} {gd : Option (Nat × Bool)}
theorem PtrIs.rep {w : World} {M : Nat → Nat → Prop} {β : Nat → Hd} {H : List (Nat × Ob)} {v : V} {b : Bool} (h : PtrIs v b) {x : Value} (hx : RepV w M β H v x) : ∃ p, x = .pointer p ∧ p.isNone = b := by
  cases h with
  | ptr n off => obtain ⟨q, _, rfl⟩ := hx; exact ⟨_, rfl, rfl⟩
  | ref cs off => obtain ⟨q, o, vs, rfl, _⟩ := hx; exact ⟨_, rfl, rfl⟩
  | nil => obtain ⟨rfl, _⟩ := hx; exact ⟨_, rfl, rfl⟩
theorem run_eq_nil {P : Program} {xt : TypeId} (hu : isPtrT P xt = true) (p : Option Addr) (w : World) : (Op.equal xt (.pointer p) (.pointer none)).run P w = .ok p.isNone w := by
  unfold isPtrT at hu
  split at hu
  · rename_i e he
    unfold Op.equal
    rw [show Op.maxDepth = 9999 + 1 from rfl, Op.equalIn]
    simp only [Sem.run_bind, run_underlying he, Result.andThen_ok]
    cases p <;> rfl
  · cases hu
theorem q_nil_eql {xt yt : TypeId} {x y : Operand} {v : V} {b : Bool} (hu : isPtrT E.P xt = true) (hx : S.ev x = some v) (hp : PtrIs v b) (hy : S.ev y = some (.d (.raw (.pointer none)))) (hox : okOp x = true) (hoy : okOp y = true) :
    Swift E S ⟨dst, .binOp .eql xt x y yt, ty, pos, af, gd⟩ (.d (.bool b)) := Swift.mk fun β a w h => by
  obtain ⟨p, h1, h3⟩ := hp.rep (h.ev hx hox)
  have h2 : a.eval y = .pointer none := (h.ev hy hoy).1
  refine ⟨.bool b, fun w' _ => ?_, rfl⟩
  have he := run_eq_nil hu p w'
  rw [h3] at he
  have hb : (binOp .eql xt (.pointer p) (.pointer none)).run E.P w' = .ok (.bool b) w' := by
    show (do pure (Value.bool (← Op.equal xt (.pointer p) (.pointer none))) : Sem Value).run E.P w' = _
    simp only [Sem.run_bind, he, Result.andThen_ok, Sem.run_pure]
  simp [execOp, h1, h2, eqGuard, hb]
inductive Src (H : List (Nat × Ob)) : V → List D → Prop
  | d (ys : List D) : Src H (.d (.list 1 ys)) ys
  | own {n k e : Nat} {sh : Bool} {xs : List D} (h : look n H = some (.row e 1 sh xs k)) : Src H (.own n k) xs
  | suf {n k e p : Nat} {sh : Bool} {xs : List D} (h : look n H = some (.row e 1 sh xs k)) : Src H (.suf n k p) (xs.drop p)
  | win {n k e p m : Nat} {sh : Bool} {xs : List D} (h : look n H = some (.row e 1 sh xs k)) : Src H (.win n k p m) ((xs.drop p).take m)
  | nils (sz : Nat) : Src H (.nils sz) []
  | nil (sz : Nat) : Src H (.d (.nil sz)) []
theorem row_read {C : Ctx} {β : Nat → Hd} {a : Act} {w : World} (h : StB C β S a w) {n e k : Nat} {sh : Bool} {xs : List D} (hl : look n S.H = some (.row e 1 sh xs k)) :
    ∃ ad c us, (β n).v = .slice ad xs.length c ∧ xs.length ≤ c ∧ RepE w (Mut C.M0 β S.H) 1 xs us ∧ us.length = xs.length ∧ ∀ j y, us[j]? = some y → ∃ b, ad = some ⟨b, 0, none⟩ ∧ w.cell? ⟨b, j, none⟩ = some y := by
  obtain ⟨ys, h1, h2⟩ := h.obs n _ hl
  have hlen : ys.length = xs.length := by have := h2.length; omega
  rcases h1.2 with ⟨q1, q2⟩ | ⟨g, cap, cur, q1, q2, q3, q4, q5, q6, q7⟩
  · refine ⟨none, 0, ys, by rw [q1, q2], by omega, h2, hlen, fun j y hj => ?_⟩
    have : j < ys.length := (List.getElem?_eq_some_iff.1 hj).1
    omega
  · refine ⟨_, cap, ys, q1, q4, h2, hlen, fun j y hj => ⟨g, rfl, ?_⟩⟩
    have hj2 : j < ys.length := (List.getElem?_eq_some_iff.1 hj).1
    rw [← q7, List.getElem?_take] at hj
    split at hj
    · simp [World.cell?, q3]
      rw [← Array.getElem?_toList]
      exact hj
    · cases hj
theorem Src.rep {C : Ctx} {β : Nat → Hd} {a : Act} {w : World} (h : StB C β S a w) {v : V} {ys : List D} (hs : Src S.H v ys) {x : Value} (hv : RepV w (Mut C.M0 β S.H) β S.H v x) :
    ∃ ad c us, x = .slice ad ys.length c ∧ RepE w (Mut C.M0 β S.H) 1 ys us ∧ us.length = ys.length ∧ ∀ j y, us[j]? = some y → ∃ b o, ad = some ⟨b, o, none⟩ ∧ w.cell? ⟨b, o + j, none⟩ = some y := by
  cases hs with
  | d ys =>
    obtain ⟨ad, c, us, rfl, h1, h2, h3, h4, h5⟩ := hv
    refine ⟨ad, c, us, rfl, h4, by have := h4.length; omega, fun j y hj => ?_⟩
    obtain ⟨b, o, e1, _, e2⟩ := h5 j y hj
    exact ⟨b, o, e1, e2⟩
  | @own n k e sh xs hl =>
    obtain ⟨ad, c, us, h1, h0, h2, h3, h4⟩ := row_read h hl
    have hx : x = (β n).v := hv e 1 sh _ hl
    refine ⟨ad, c, us, by rw [hx, h1], h2, h3, fun j y hj => ?_⟩
    obtain ⟨b, e1, e2⟩ := h4 j y hj
    exact ⟨b, 0, e1, by rw [Nat.zero_add]; exact e2⟩
  | @suf n k e p sh xs hl =>
    obtain ⟨ad, c, us, h1, h0, h2, h3, h4⟩ := row_read h hl
    obtain ⟨ad', l, c', a', q1, q2, q3, q4, q5⟩ := hv e 1 sh _ hl
    rw [h1] at q1
    simp only [Value.slice.injEq] at q1
    obtain ⟨rfl, rfl, rfl⟩ := q1
    have h5 := h2.drop p q2
    rw [Nat.mul_one] at h5
    refine ⟨a', c - p, us.drop p, by rw [List.length_drop]; exact q3, h5, by simp [h3], fun j y hj => ?_⟩
    rw [List.getElem?_drop] at hj
    obtain ⟨b, e1, e2⟩ := h4 _ y hj
    have hlt : p + j < us.length := (List.getElem?_eq_some_iff.1 hj).1
    refine ⟨b, p, ?_, e2⟩
    rw [q4 (by omega), e1]
    simp [add_flat]
  | @win n k e p m sh xs hl =>
    obtain ⟨ad, c, us, h1, h0, h2, h3, h4⟩ := row_read h hl
    obtain ⟨ad', l, c', a', c1, q1, q2, q3, q4, q5⟩ := hv e 1 sh _ hl
    rw [h1] at q1
    simp only [Value.slice.injEq] at q1
    obtain ⟨rfl, rfl, rfl⟩ := q1
    have h5 := (h2.drop p (by omega)).take m (by rw [List.length_drop]; omega)
    rw [Nat.mul_one, Nat.mul_one] at h5
    have hlm : ((xs.drop p).take m).length = m := by simp; omega
    refine ⟨a', c1, (us.drop p).take m, by rw [hlm]; exact q3, h5, by rw [hlm]; simp [h3]; omega, fun j y hj => ?_⟩
    rw [List.getElem?_take] at hj
    split at hj
    · rename_i hjm
      rw [List.getElem?_drop] at hj
      obtain ⟨b, e1, e2⟩ := h4 _ y hj
      refine ⟨b, p, ?_, e2⟩
      rw [q5 (by omega), e1]
      simp [add_flat]
    · cases hj
  | nils sz => exact ⟨none, 0, [], hv, rfl, rfl, fun j y hj => by simp at hj⟩
  | nil sz => exact ⟨none, 0, [], hv, rfl, rfl, fun j y hj => by simp at hj⟩
inductive Dest (H : List (Nat × Ob)) (n e k : Nat) (xs : List D) : V → Nat → Nat → Prop
  | own (h : look n H = some (.row e 1 false xs k)) : Dest H n e k xs (.own n k) 0 xs.length
  | win {p m : Nat} (h : look n H = some (.row e 1 false xs k)) : Dest H n e k xs (.win n k p m) p m
theorem Dest.look {H : List (Nat × Ob)} {n e k p m : Nat} {xs : List D} {v : V} (h : Dest H n e k xs v p m) : look n H = some (.row e 1 false xs k) := by cases h <;> assumption
theorem Dest.rep {C : Ctx} {β : Nat → Hd} {a : Act} {w : World} (h : StB C β S a w) {n e k p m : Nat} {xs : List D} {v : V} (hd : Dest S.H n e k xs v p m) {x : Value} (hv : RepV w (Mut C.M0 β S.H) β S.H v x) :
    ∃ ad c, x = .slice ad m c ∧ p + m ≤ xs.length ∧ (m ≠ 0 → ∃ b, hb (β n).v = some b ∧ ad = some ⟨b, p, none⟩) := by
  obtain ⟨ad, c, us, h1, h0, h2, h3, h4⟩ := row_read h hd.look
  have hne : xs.length ≠ 0 → ∃ b, ad = some ⟨b, 0, none⟩ := fun hne => by
    obtain ⟨b, e1, _⟩ := h4 0 us[0] (by simp)
    exact ⟨b, e1⟩
  cases hd with
  | own hl =>
    have hx : x = (β n).v := hv e 1 false _ hl
    refine ⟨ad, c, by rw [hx, h1], by omega, fun hm => ?_⟩
    obtain ⟨b, rfl⟩ := hne hm
    exact ⟨b, by rw [h1]; rfl, rfl⟩
  | win hl =>
    obtain ⟨ad', l, c', a', c1, q1, q2, q3, q4, q5⟩ := hv e 1 false _ hl
    rw [h1] at q1
    simp only [Value.slice.injEq] at q1
    obtain ⟨rfl, rfl, rfl⟩ := q1
    refine ⟨a', c1, q3, q2, fun hm => ?_⟩
    obtain ⟨b, rfl⟩ := hne (by omega)
    refine ⟨b, by rw [h1]; rfl, ?_⟩
    rw [q5 hm]
    simp [add_flat]
theorem splice_nil (xs : List D) (p : Nat) (ys : List D) : xs.take p ++ ys.take 0 ++ xs.drop (p + 0) = xs := by simp
theorem StB.copy {C : Ctx} {β : Nat → Hd} {a : Act} {w : World} (h : StB C β S a w) {P : Program} {dT sT : TypeId} {el : Nat} (ht : TSlice P dT el 1) {n e k p m : Nat} {xs ys : List D} {v v' : V} (hd : Dest S.H n e k xs v p m) (hs : Src S.H v' ys) {x x' : Value} (hv : RepV w (Mut C.M0 β S.H) β S.H v x) (hv' : RepV w (Mut C.M0 β S.H) β S.H v' x') {c : Nat} (hc : c = min ys.length m) :
    ∃ w', (Builtin.copy_ #[dT, sT] ty #[x, x']).run P w = .ok (goInt c) w' ∧ StB C β { S with H := (n, .row e 1 false (xs.take p ++ ys.take c ++ xs.drop (p + c)) k) :: S.H } a w' := by
  have hl := hd.look
  obtain ⟨ad, c1, rfl, hpm, had⟩ := hd.rep h hv
  obtain ⟨sd, c2, us, rfl, hE, hul, hsc⟩ := hs.rep h hv'
  obtain ⟨ie, hu, hie, hsz, hpos⟩ := slice_parts ht
  have hH : ∀ zs : List D, ∀ m e' sz' sh' xs' k', look m ((n, Ob.row e 1 false zs k) :: S.H) = some (.row e' sz' sh' xs' k') → ∃ sh' xs', look m S.H = some (.row e' sz' sh' xs' k') := fun zs m e' sz' sh' xs' k' hm => by
    rw [look_set] at hm
    split at hm
    · rename_i eq
      subst eq
      cases hm
      exact ⟨false, xs, hl⟩
    · exact ⟨sh', xs', hm⟩
  rcases Nat.eq_zero_or_pos c with h0 | h0
  · subst h0
    rw [splice_nil]
    refine ⟨w, ?_, h.turn hl (fun _ _ => rfl) rfl rfl rfl (Nat.le_refl _) (fun _ _ _ => rfl) (fun b h => .inl h) (fun _ _ _ _ _ h => h) (fun b o _ _ h => h)
      (fun k t x v _ => RepV.keep k (fun _ => rfl) (hH xs) x v) (fun _ => rfl) (fun k m cs vs _ _ => RepL.keep k (fun _ => rfl) (hH xs) _ vs) (fun kp => ?_)⟩
    · have hmin : Nat.min ys.length m = 0 := hc.symm
      have hst : (match ad with | some a => (do storeCells a []) | none => pure () : Sem Unit).run P w = .ok () w := by cases ad <;> rfl
      cases sd <;> cases ad <;> simp [Builtin.copy_, run_underlying hu, Builtin.lenOf, Builtin.firstCells, sizeOf, typeInfo, hie, hmin, storeCells, loadCells, loadCellsFrom]
    · obtain ⟨zs, h1, h2⟩ := h.obs n _ hl
      exact ⟨zs, h1, RepE.keep kp _ _ _ h2⟩
  · obtain ⟨b, hbn, rfl⟩ := had (by omega)
    obtain ⟨zs, h3, h4⟩ := h.obs n _ hl
    rcases h3.2 with ⟨q, _⟩ | ⟨g, cap, cur, h5, h6, h7, h8, h9, h10, h11⟩
    · rw [q] at hbn; cases hbn
    · rw [h5] at hbn
      simp only [hb, Option.some.injEq] at hbn
      subst hbn
      have hyl : 0 < us.length := by omega
      obtain ⟨b2, o2, rfl, _⟩ := hsc 0 us[0] (by simp)
      have hcell : ∀ j v, (us.take c)[j]? = some v → w.cell? ((⟨b2, o2, none⟩ : Addr).add j) = some v := fun j v hj => by
        rw [List.getElem?_take] at hj
        split at hj
        · obtain ⟨b3, o3, e1, e2⟩ := hsc j v hj
          simp only [Option.some.injEq, Addr.mk.injEq, and_true] at e1
          obtain ⟨rfl, rfl⟩ := e1
          rw [add_flat]
          exact e2
        · cases hj
      have htl : (us.take c).length = c := by simp; omega
      have hrun := run_copy_row P w dT sT ty el g p m c1 ⟨b2, o2, none⟩ ys.length c2 cur e (us.take c) hu (by rw [hie]; simp [hsz]) h7 (by rw [htl]; exact hc) hcell (by rw [htl, h10]; omega) (fun v hv => hE.one v (List.mem_of_mem_take hv))
      rw [htl] at hrun
      refine ⟨_, hrun, h.turn (w' := w.setRow g (cur.toList.take p ++ us.take c ++ cur.toList.drop (p + c)).toArray) hl (fun _ _ => rfl) rfl rfl rfl (by simp) (fun k _ hk => setRow_other w g k _ (fun e => hk (by rw [h5, e]; rfl))) (fun b h => .inl h) (fun b' o' y h4 h5 _ => absurd (.inl rfl) h5) (fun _ _ _ _ _ => .inl rfl)
        (fun k t x v _ => RepV.keep k (fun _ => rfl) (hH _) x v) (fun _ => rfl) (fun k m cs vs _ _ => RepL.keep k (fun _ => rfl) (hH _) _ vs) (fun kp => ?_)⟩
      have hzl : zs.length = xs.length := by have := h4.length; omega
      have hnl : (xs.take p ++ ys.take c ++ xs.drop (p + c)).length = xs.length := by simp; omega
      have hE1 := RepE.append (RepE.append (RepE.take p (RepE.keep kp _ _ _ h4) (by omega)) (RepE.take c (RepE.keep kp _ _ _ hE) (by omega))) (RepE.drop (p + c) (RepE.keep kp _ _ _ h4) (by omega))
      rw [Nat.mul_one, Nat.mul_one, Nat.mul_one] at hE1
      rw [Nat.mul_one] at h10 h11
      refine ⟨zs.take p ++ us.take c ++ zs.drop (p + c), ⟨?_, .inr ⟨g, cap, _, by rw [hnl]; exact h5, h6, setRow_heap w g _ _ e _ h7, by rw [hnl]; exact h8, h9, ?_, ?_⟩⟩, hE1⟩
      · simp; omega
      · have : cur.toList.length = cap := by simpa using h10
        simp
        omega
      · rw [hnl, ← h11, Nat.mul_one]
        have hcl : cur.toList.length = cap := by simpa using h10
        apply List.ext_getElem?
        intro j
        simp only [List.getElem?_take, List.getElem?_append, List.getElem?_drop, List.length_append, List.length_take, htl]
        have h12 : min p cur.toList.length = p := by omega
        have h13 : min p (min xs.length cur.toList.length) = p := by omega
        rw [h12, h13]
        by_cases hj1 : j < p
        · simp only [hj1, show j < p + c by omega, if_true, show j < xs.length by omega]
        · by_cases hj2 : j < p + c
          · simp only [hj1, hj2, if_true, if_false, show j < xs.length by omega]
          · simp only [hj1, hj2, if_false]
            by_cases hj3 : j < xs.length
            · rw [if_pos hj3, if_pos (by omega)]
            · rw [if_neg hj3, if_neg (by omega)]
theorem t_copy {t t' el n e k p m c : Nat} {x y : Operand} {xs ys : List D} {v v' : V} [ht : TSlice E.P t el 1] (hx : S.ev x = some v) (hox : okOp x = true) (hy : S.ev y = some v') (hoy : okOp y = true) (hd : Dest S.H n e k xs v p m) (hs : Src S.H v' ys) (hc : c = min ys.length m) :
    TurnV E S ⟨dst, .call { callee := .builtin .copy, args := #[x, y], argTypes := #[t, t'] }, ty, pos, af, gd⟩ { S with H := (n, .row e 1 false (xs.take p ++ ys.take c ++ xs.drop (p + c)) k) :: S.H } (.d (.int .i64 (c : Nat))) := TurnV.mk fun β a w h => by
  obtain ⟨w', h1, h2⟩ := h.copy (ty := ty) (sT := t') ht hd hs (h.ev hx hox) (h.ev hy hoy) hc
  refine ⟨goInt c, w', β, ?_, h2, rfl⟩
  simp [execOp, resolve, invoke, builtin, h1]
end
section
variable {E : Set} {Q : Exit → Sd → Prop} {ops : Array Oper} {draw : Bool} {rest : Todo} {way : Way3} {ty : TypeId} {pos : String} {af : Array Edge} {gd : Option (Nat × Bool)}
variable {env : List (Nat × V)} {H : List (Nat × Ob)} {gl : List (Nat × List D)} {d : Nat}
theorem wk_slot {C : Ctx} (t : Nat) {v : V} {x : D} (hl : look t env = some v) (hd : ToD H v x) : Wk C ⟨env, H, gl⟩ ⟨(t, .d x) :: env, H, gl⟩ := fun a w ⟨β, h⟩ => by
  refine ⟨β, { h with env := ?_ }⟩
  intro s u hs
  dsimp only at hs
  rw [look_cons] at hs
  split at hs
  · rename_i e
    subst e
    cases hs
    obtain ⟨y, h1, h2⟩ := h.env _ _ hl
    exact ⟨y, h1, hd.rep h h2⟩
  · exact h.env s u hs
end
end
section
def isSliceT (P : Program) (t : TypeId) : Bool := match P.underlying t with | some (.slice _) => true | _ => false
section
variable {E : Set} {S : Sd} {dst : Option Tmp} {ty : TypeId} {pos : String} {af : Array Edge} {gd : Option (Nat × Bool)}
theorem q_index_sln {t e sz i n off l c : Nat} {x y : Operand} {k : IntKind} {p : Int} [ht : TSlice E.P t e sz] (hx : S.ev x = some (.sl n off l c)) (hy : S.ev y = some (.d (.int k p))) (hox : okOp x = true) (hoy : okOp y = true) (hi : p = (i : Nat)) (hm : i < l) :
    Swift E S ⟨dst, .indexAddr t x y, ty, pos, af, gd⟩ (.ptr n (off + i * sz)) := Swift.mk fun β a w h => by
  subst hi
  obtain ⟨b, h1, h2⟩ := h.ev hx hox
  have h3 : a.eval y = .int k (i : Nat) := h.ev hy hoy
  refine ⟨.pointer (some ⟨b, off + i * sz, none⟩), fun w' _ => ?_, b, h1, rfl⟩
  have := run_indexAt (P := E.P) ht (b := b) (o := off) (n := l) (c := c) (k := k) hm w'
  simp [execOp, h2, h3, this]
theorem q_slice_arr {t m e sz n off : Nat} {x : Operand} [ht : TArray E.P t m e sz] (hx : S.ev x = some (.ptr n off)) (hox : okOp x = true) : Swift E S ⟨dst, .slice t x none none none, ty, pos, af, gd⟩ (.sl n off m m) := Swift.mk fun β a w h => by
  obtain ⟨b, h1, h2⟩ := h.ev hx hox
  obtain ⟨ie, hu, hie, hs, _⟩ := array_parts ht
  refine ⟨.slice (some ⟨b, off, none⟩) m m, fun w' _ => ?_, b, h1, rfl⟩
  have hb : (Instr.sliceBounds false m m none none none).run E.P w' = .ok (0, m, m) w' := rfl
  simp [execOp, Instr.sliceAt, h2, run_underlying hu, Instr.sureAddr, hb, run_size hie, hs, add_flat]
theorem q_load_hbox {t : Nat} {x : Operand} {n off e sz i : Nat} {xs : List D} {cs : List V} {v : V} [ht : TCell E.P t] (hx : S.ev x = some (.ptr n off)) (hox : okOp x = true) (hl : look n S.H = some (.hbox e sz xs i cs)) (hc : cs[off]? = some v) (hne : Nat.beq i off = false) : Quiet E S ⟨dst, .load t x, ty, pos, af, gd⟩ v := Quiet.mk fun β a w h => by
  obtain ⟨b, h1, h2⟩ := h.ev hx hox
  obtain ⟨b', vs, u0, t', ys, h3, h4, h5, h6, h7, h8, h9, h10⟩ := h.obs n _ hl
  rw [h1] at h3
  cases h3
  obtain ⟨u, h11, h12⟩ := h10.get hc
  have hio : i ≠ off := fun e => by subst e; simp at hne
  refine ⟨u, fun w' g => ?_, h12⟩
  have h13 : (vs.set i u0)[off]? = some u := by rw [List.getElem?_set_ne hio]; exact h11
  have := loadAt_cell ht (box_cell (grows_heap g h4) h13)
  simp [execOp, h2, this]
theorem run_slice_eq_nil {P : Program} {xt : TypeId} (hu : isSliceT P xt = true) (p : Option Addr) (n c : Nat) (w : World) : (Op.equal xt (.slice p n c) (.slice none 0 0)).run P w = .ok p.isNone w := by
  unfold isSliceT at hu
  split at hu
  · rename_i e he
    unfold Op.equal
    rw [show Op.maxDepth = 9999 + 1 from rfl, Op.equalIn]
    simp only [Sem.run_bind, run_underlying he, Result.andThen_ok]
    cases p <;> rfl
  · cases hu
theorem k_slice_nil {sz sz' : Nat} {xt yt : TypeId} {x y : Operand} {xs : List D} (hu : isSliceT E.P xt = true) (hx : S.ev x = some (.d (.list sz xs))) (hy : S.ev y = some (.nils sz')) (hox : okOp x = true) (hoy : okOp y = true) (hpos : 0 < sz) :
    SwiftK E S ⟨dst, .binOp .eql xt x y yt, ty, pos, af, gd⟩ (fun _ => S) (fun k => .d (.bool (Nat.beq k 1 && xs.isEmpty))) := SwiftK.mk fun β a w h => by
  obtain ⟨ad, c, ys, h1, h3, h4, h5, h6, h7⟩ := h.ev hx hox
  have h2 : a.eval y = .slice none 0 0 := h.ev hy hoy
  refine ⟨.bool ad.isNone, β, if ad.isNone then 1 else 0, fun w' => ?_, h, ?_⟩
  · have he := run_slice_eq_nil hu ad xs.length c w'
    have hb : (binOp .eql xt (.slice ad xs.length c) (.slice none 0 0)).run E.P w' = .ok (.bool ad.isNone) w' := by
      show (do pure (Value.bool (← Op.equal xt (.slice ad xs.length c) (.slice none 0 0))) : Sem Value).run E.P w' = _
      simp only [Sem.run_bind, he, Result.andThen_ok, Sem.run_pure]
    simp [execOp, h1, h2, eqGuard, hb]
  · show Value.bool ad.isNone = Value.bool (Nat.beq (if ad.isNone then 1 else 0) 1 && xs.isEmpty)
    cases ad with
    | some p => rfl
    | none =>
      have hc := h5 rfl
      have : xs = [] := List.eq_nil_of_length_eq_zero (by omega)
      subst this
      rfl
end
section
variable {E : Set} {Q : Exit → Sd → Prop} {ops : Array Oper} {draw : Bool} {rest : Todo} {way : Way3} {ty : TypeId} {pos : String} {af : Array Edge} {gd : Option (Nat × Bool)} {S : Sd}
variable {env : List (Nat × V)} {H : List (Nat × Ob)} {gl : List (Nat × List D)} {d : Nat}
theorem z_slice_nil {sz sz' : Nat} {xt yt : TypeId} {x y : Operand} {xs : List D} (h1 : xs = [] → TR E draw ops Q rest ⟨(d, .d (.bool true)) :: env, H, gl⟩) (h2 : TR E draw ops Q rest ⟨(d, .d (.bool false)) :: env, H, gl⟩) (hu : isSliceT E.P xt = true := by kernel_rfl) (hx : Sd.ev ⟨env, H, gl⟩ x = some (.d (.list sz xs)) := by exact rfl) (hy : Sd.ev ⟨env, H, gl⟩ y = some (.nils sz') := by exact rfl) (hox : okOp x = true := by exact rfl) (hoy : okOp y = true := by exact rfl) (hpos : 0 < sz := by exact ltd rfl) (hd : d < E.C.nt := by exact ltd rfl)
    (hg : Sd.gd ⟨env, H, gl⟩ ops ⟨some d, .binOp .eql xt x y yt, ty, pos, af, gd⟩ = some true := by exact rfl) :
    TR E draw ops Q (.step ⟨some d, .binOp .eql xt x y yt, ty, pos, af, gd⟩ way rest) ⟨env, H, gl⟩ :=
  tr_stillK (k_slice_nil (S := ⟨env, H, gl⟩) hu hx hy hox hoy hpos) rfl hd hg rfl fun k => by
    show TR E draw ops Q rest ⟨(d, .d (.bool (Nat.beq k 1 && xs.isEmpty))) :: env, H, gl⟩
    cases hk : Nat.beq k 1 with
    | false => exact h2
    | true =>
      cases xs with
      | nil => exact h1 rfl
      | cons a t => exact h2
theorem z_copy {t t' el n e k p m c : Nat} {x y : Operand} {xs ys : List D} {v v' : V} [ht : TSlice E.P t el 1] (h : TR E draw ops Q rest ⟨(d, .d (.int .i64 (c : Nat))) :: env, (n, .row e 1 false (xs.take p ++ ys.take c ++ xs.drop (p + c)) k) :: H, gl⟩) (hx : Sd.ev ⟨env, H, gl⟩ x = some v := by exact rfl) (hox : okOp x = true := by exact rfl) (hy : Sd.ev ⟨env, H, gl⟩ y = some v' := by exact rfl) (hoy : okOp y = true := by exact rfl)
    (hds : Dest H n e k xs v p m := by first | exact Dest.own rfl | exact Dest.win rfl) (hs : Src H v' ys := by first | exact Src.d _ | exact Src.own rfl | exact Src.suf rfl | exact Src.win rfl | exact Src.nils _ | exact Src.nil _) (hc : c = min ys.length m := by rfl) (hd : d < E.C.nt := by exact ltd rfl)
    (hg : Sd.gd ⟨env, H, gl⟩ ops ⟨some d, .call { callee := .builtin .copy, args := #[x, y], argTypes := #[t, t'] }, ty, pos, af, gd⟩ = some true := by exact rfl) (hw : isBar draw way = true := by exact rfl) :
    TR E draw ops Q (.step ⟨some d, .call { callee := .builtin .copy, args := #[x, y], argTypes := #[t, t'] }, ty, pos, af, gd⟩ way rest) ⟨env, H, gl⟩ := tr_turnV (t_copy hx hox hy hoy hds hs hc) rfl hd hg rfl hw h
theorem wk_dcell {C : Ctx} (n j : Nat) {cs : List V} {v : V} {x : D} (hl : look n H = some (.box cs)) (hj : cs[j]? = some v) (hd : ToD H v x) : Wk C ⟨env, H, gl⟩ ⟨env, (n, .box (cs.set j (.d x))) :: H, gl⟩ := fun a w ⟨β, h⟩ => by
  have hH : ∀ m e' sz' sh' xs' k', look m ((n, Ob.box (cs.set j (.d x))) :: H) = some (.row e' sz' sh' xs' k') → ∃ sh' xs', look m H = some (.row e' sz' sh' xs' k') := fun m e' sz' sh' xs' k' hm => by
    rw [look_set] at hm
    split at hm
    · cases hm
    · exact ⟨sh', xs', hm⟩
  refine ⟨β, h.turn (S := ⟨env, H, gl⟩) hl (fun _ _ => rfl) rfl rfl rfl (Nat.le_refl _) (fun _ _ _ => rfl) (fun b h => .inl h) (fun _ _ _ _ _ h => h) (fun _ _ _ _ _ => trivial)
    (fun k t x v _ => RepV.keep k (fun _ => rfl) hH x v) (fun _ => rfl) (fun k m cs vs _ _ => RepL.keep k (fun _ => rfl) hH _ vs) (fun k => ?_)⟩
  obtain ⟨b, vs, t, e1, e2, hL⟩ := h.obs n _ hl
  have hr := RepL.keep k (fun _ => rfl) hH _ _ hL
  obtain ⟨u, hu1, hu2⟩ := hL.get hj
  have hu : RepD w (Mut C.M0 β ((n, Ob.box (cs.set j (.d x))) :: H)) x u := RepD.keep k _ _ (hd.rep h hu2)
  have hs := hr.set j (x := .d x) (v := u) hu
  rw [show vs.set j u = vs from by
    obtain ⟨h3, h4⟩ := List.getElem?_eq_some_iff.1 hu1
    rw [← h4]; exact List.set_getElem_self h3] at hs
  exact ⟨b, vs, t, e1, e2, hs⟩
theorem wk_unshare {C : Ctx} (n : Nat) {e sz k : Nat} (hl : look n H = some (.row e sz true [] k)) : Wk C ⟨env, H, gl⟩ ⟨env, (n, .row e sz false [] k) :: H, gl⟩ := fun a w ⟨β, h⟩ => by
  have hH : ∀ m e' sz' sh' xs' k', look m ((n, Ob.row e sz false [] k) :: H) = some (.row e' sz' sh' xs' k') → ∃ sh' xs', look m H = some (.row e' sz' sh' xs' k') := fun m e' sz' sh' xs' k' hm => by
    rw [look_set] at hm
    split at hm
    · rename_i e
      subst e
      cases hm
      exact ⟨true, [], hl⟩
    · exact ⟨sh', xs', hm⟩
  refine ⟨β, h.turn (S := ⟨env, H, gl⟩) hl (fun _ _ => rfl) rfl rfl rfl (Nat.le_refl _) (fun _ _ _ => rfl) (fun b h => .inl h) (fun _ _ _ _ _ h => h) (fun b o _ _ _ => .inr (by simp))
    (fun k t x v _ => RepV.keep k (fun _ => rfl) hH x v) (fun _ => rfl) (fun k m cs vs _ _ => RepL.keep k (fun _ => rfl) hH _ vs) (fun k => ?_)⟩
  obtain ⟨ys, h1, h2⟩ := h.obs n _ hl
  exact ⟨ys, h1, RepE.keep k _ _ _ h2⟩
def Exit.noGotoD (Q : Exit → Sd → Prop) : Exit → Sd → Prop
  | .goto _, _ => False
  | e, S => Q e S
theorem tc_scope {c : Code} (hrd : E.rd = none) (h : TC E c (Exit.noGotoD Q) S) : TC E (.scope c) Q S := fun a w hS => by
  have h1 := h a w hS
  rw [hrd] at h1 ⊢
  have h2 : c.wp E.P (Qof E.C (Exit.noGotoD Q)) a w := wpIn_wide.1 h1
  refine wpIn_wide.2 (wp_scope_straight (Code.wp_mono (fun e a' w' h5 => ?_) h2))
  obtain ⟨S', h3, h4⟩ := h5
  cases e with
  | goto l => exact h4.elim
  | _ => exact ⟨S', h3, h4⟩
theorem yyq {A G : Prop} (h : A) (hs : Step A G := by (apply st_p; exact rfl; exact rfl; (first | (apply q_nil_eql; kernel_rfl; exact rfl; constructor; exact rfl; exact rfl; exact rfl) | (apply q_nil_neq; kernel_rfl; exact rfl; constructor; exact rfl; exact rfl; exact rfl) | (apply q_slice3; exact rfl; exact rfl; exact rfl; exact rfl; exact rfl; exact rfl; exact rfl; exact rfl; exact rfl; (focus (first | with_reducible exact nat_lit_eq | exact rfl | exact (Int.toNat_of_nonneg (by omega)).symm)); (focus (first | exact rfl | omega)); (focus (first | exact rfl | omega)); (focus (first | omega | (simp only [List.length_cons, List.length_nil, List.length_append, List.length_map, List.length_take, List.length_drop]; omega)))) | (apply q_len_win; exact rfl; exact rfl; exact rfl) | (apply q_index_win; exact rfl; exact rfl; exact rfl; exact rfl; exact rfl; (focus (first | with_reducible exact nat_lit_eq | exact rfl | exact (Int.toNat_of_nonneg (by omega)).symm)); (focus (first | omega | (simp only [List.length_cons, List.length_nil, List.length_append, List.length_map, List.length_take, List.length_drop]; omega)))) | (apply q_slice_arr; exact rfl; exact rfl) | (apply q_index_sln; exact rfl; exact rfl; exact rfl; exact rfl; (focus (first | with_reducible exact nat_lit_eq | exact rfl | exact (Int.toNat_of_nonneg (by omega)).symm)); (focus (first | omega | (simp only [List.length_cons, List.length_nil, List.length_append, List.length_map, List.length_take, List.length_drop]; omega))))); exact ltd rfl; exact rfl)) : G := hs.go h
theorem yyr {A G : Prop} (h : A) (hs : Step A G := by first | (apply st_q; exact rfl; exact rfl; (apply q_load_hbox; exact rfl; exact rfl; exact rfl; exact rfl; exact rfl); exact ltd rfl; exact rfl; exact rfl) | (apply st_store_el; exact rfl; exact rfl; exact rfl; exact rfl; exact rfl; (focus (first | exact ToD.d _ | exact ToD.nils _ | exact ToD.own rfl)); (focus (first | exact CellsD.agg _ | constructor)); exact rfl; (focus (simp only [List.length_set, List.length_replicate, List.length_map, List.length_append, List.length_cons, List.length_nil, List.length_take, List.length_drop]; omega)); exact rfl; exact rfl)) : G := hs.go h
theorem yyc {A G : Prop} (h : A) (hs : Step A G := by (apply st_p; exact rfl; exact rfl; (first | (apply q_cmp_t; exact rfl; exact rfl; exact rfl; exact rfl; exact rfl; (focus (simp only [cmp, List.length_cons, List.length_nil, List.length_map, List.length_append, List.length_drop, List.length_take] <;> omega))) | (apply q_cmp_f; exact rfl; exact rfl; exact rfl; exact rfl; exact rfl; (focus (simp only [cmp, List.length_cons, List.length_nil, List.length_map, List.length_append, List.length_drop, List.length_take] <;> omega)))); exact ltd rfl; exact rfl)) : G := hs.go h
end
end
section
theorem FnE.fix {P : Program} {gl : List (Nat × List D)} {f : FuncId} {args : List V} {n e sz : Nat} {xs : List D} (h : FnE P gl f args [] (fun v H1 => ∃ k, v = .own n k ∧ H1 = [(n, .row e sz true xs k)])) : FnE P gl f args [] (fun v H1 => v = .own n 0 ∧ H1 = [(n, .row e sz true xs 0)]) := fun w M β us h1 h2 h3 h4 => by
  refine (h w M β us h1 h2 h3 h4).mono ?_
  rintro en w' ⟨v, x, H1, β1, ⟨k, rfl, rfl⟩, hok, rfl, hfr, hfix, hnew, hobs, hv⟩
  have hl : ∀ (k m : Nat) (ob : Ob), look m [(n, Ob.row e sz true xs k)] = some ob → m = n ∧ ob = .row e sz true xs k := fun k m ob hm => by
    rw [look_cons] at hm
    split at hm
    · rename_i e'
      cases hm
      exact ⟨e'.symm, rfl⟩
    · cases hm
  have hn : ∀ k : Nat, look n [(n, Ob.row e sz true xs k)] = some (.row e sz true xs k) := fun k => by rw [look_cons, if_pos rfl]
  have hM : ∀ b o, Mut M β1 [(n, Ob.row e sz true xs 0)] b o → Mut M β1 [(n, Ob.row e sz true xs k)] b o := fun b o hm => by
    rcases hm with hm | ⟨m, ob, h5, h6, h7⟩
    · exact .inl hm
    · obtain ⟨rfl, rfl⟩ := hl _ _ _ h5
      exact .inr ⟨m, _, hn k, h6, h7⟩
  refine ⟨.own n 0, x, [(n, .row e sz true xs 0)], β1, ⟨rfl, rfl⟩, ?_, rfl, hfr, hfix, fun m ob b hm hb2 => ?_, ⟨fun m ob hm => ?_, fun m m' b ob ob' hne h5 h6 _ => ?_, fun m ob b o hm hb2 => ?_⟩, fun e' sz' sh' xs' hm => ?_⟩
  · simp [endOk, keysOk, rowsOk, closedH, V.within, keyIn, Ob.cells, withinL, look, hn]
  · obtain ⟨rfl, rfl⟩ := hl _ _ _ hm
    exact hnew m _ b (hn k) hb2
  · obtain ⟨rfl, rfl⟩ := hl _ _ _ hm
    obtain ⟨ys, h5, h6⟩ := hobs.obs m _ (hn k)
    exact ⟨ys, h5, RepE.keep (Keeps.weak hM) _ _ _ h6⟩
  · obtain ⟨rfl, _⟩ := hl _ _ _ h5
    obtain ⟨rfl, _⟩ := hl _ _ _ h6
    exact absurd rfl hne
  · obtain ⟨rfl, rfl⟩ := hl _ _ _ hm
    exact hobs.out m _ b o (hn k) hb2
  · exact hv e sz true xs (hn k)
end
section
section
variable {E : Set} {Q : Exit → Sd → Prop} {S : Sd} {env : List (Nat × V)} {H : List (Nat × Ob)} {gl : List (Nat × List D)}
theorem frz_rep {C : Ctx} {β : Nat → Hd} {a : Act} {w : World} (hB : StB C β ⟨env, H, gl⟩ a w) {n : Nat} {cs : List V} {ds : List D} {ms ns : List Nat} {H' : List (Nat × Ob)} (hb' : look n H = some (.box cs)) (hf : Frz H cs ds ms) (hsc : ds.all D.scalar = true) (h2 : Drop ns H H')
    (hne : ∀ m, m ∈ n :: ms → look m H' = none) {off : Nat} {x : Value} (hx : RepV w (Mut C.M0 β H) β H (.ptr n off) x) : RepD w (Mut C.M0 β H') (.ref ds off) x := by
  have hk : Keeps w (Mut C.M0 β H) w (Mut C.M0 β H') := Keeps.weak fun b o hm => by
    rcases hm with hm | ⟨m, ob, q1, q2, q3⟩
    · exact .inl hm
    · exact .inr ⟨m, ob, h2.look q1, q2, q3⟩
  have hfree : ∀ m ob b o, m ∈ n :: ms → look m H = some ob → hb (β m).v = some b → ¬ Mut C.M0 β H' b o := fun m ob b o hm hlm hbm hmut => by
    rcases hmut with q | ⟨m2, ob2, q1, q2, q3⟩
    · exact hB.out m ob b o hlm (.inl hbm) q
    · have : m ≠ m2 := by rintro rfl; rw [hne m hm] at q1; cases q1
      exact hB.apart m m2 b ob ob2 this hlm (h2.look q1) (.inl hbm) q2
  obtain ⟨b, q2, rfl⟩ := hx
  obtain ⟨b2, vs, ty, q3, q4, q5⟩ := hB.obs n _ hb'
  rw [q2] at q3
  cases q3
  refine ⟨b, 0, vs, by rw [Nat.zero_add], ?_, fun j y hj => ⟨b, 0, rfl, ?_, ?_⟩⟩
  · have : ∀ (cs : List V) (ds : List D) (ms' : List Nat), Frz H cs ds ms' → ds.all D.scalar = true → (∀ m ∈ ms', m ∈ ms) → ∀ vs, RepL w (Mut C.M0 β H) β H cs vs → RepA w (Mut C.M0 β H') ds vs := fun cs ds ms' hf => by
      induction hf with
      | nil => intro _ _ vs h; exact h
      | cons hd _ ih =>
        intro hs hm vs hv
        obtain ⟨u, r, rfl, r1, r2⟩ := hv
        simp only [List.all_cons, Bool.and_eq_true] at hs
        have r3 := hd.rep hB r1
        exact ⟨u, r, rfl, r3.oneOf hs.1, RepD.keep hk _ _ r3, ih hs.2 hm r r2⟩
      | @map m ks us vs' xs ms2 hlm _ ih =>
        intro hs hm vs hv
        obtain ⟨u, r, rfl, ⟨rr, r1, r1'⟩, r2⟩ := hv
        simp only [List.all_cons, Bool.and_eq_true] at hs
        obtain ⟨r0, es, clock, r3, r4, r5, r6, _⟩ := hB.obs m _ hlm
        rw [r1] at r3
        cases r3
        subst r1'
        exact ⟨_, r, rfl, rfl, ⟨rr, es, clock, rfl, r4, fun o => hfree m _ rr o (List.mem_cons_of_mem _ (hm m List.mem_cons_self)) hlm (by rw [r1]; rfl), RepB.keep hk _ _ r5, RepB.keep hk _ _ r6⟩, ih hs.2 (fun m' h' => hm m' (List.mem_cons_of_mem _ h')) r r2⟩
    exact this cs ds ms hf hsc (fun m h => h) vs q5
  · exact hfree n _ b _ List.mem_cons_self hb' (by rw [q2]; rfl)
  · rw [Nat.zero_add]
    exact box_cell q4 hj
theorem tc_fcell {c : Code} (n j m : Nat) {off : Nat} {cs0 cs : List V} {ds : List D} {ms ns : List Nat} {H' : List (Nat × Ob)} (hl : look n H = some (.box cs0)) (hj : cs0[j]? = some (.ptr m off)) (hb' : look m H = some (.box cs)) (hf : Frz H cs ds ms) (hsc : ds.all D.scalar = true) (h2 : Drop ns H H')
    (hn : ((m :: ms).all fun m => (look m H').isNone) = true) (hl' : look n H' = some (.box cs0)) (hN : (E.C.N.all fun n => (look n H').isSome) = true) (h : TC E c Q ⟨env, (n, .box (cs0.set j (.d (.ref ds off)))) :: H', gl⟩) : TC E c Q ⟨env, H, gl⟩ := fun a w ⟨β, hB⟩ => by
  have hB' := hB.weak (S' := ⟨env, H', gl⟩) (fun _ _ h => h) (fun n ob h => h2.look h) (fun _ _ h => h) (fun n hn => List.all_eq_true.1 hN n hn)
  have hne : ∀ m', m' ∈ m :: ms → look m' H' = none := fun m' hm => by simpa using List.all_eq_true.1 hn m' hm
  refine h a w ?_
  have hH : ∀ m e' sz' sh' xs' k', look m ((n, Ob.box (cs0.set j (.d (.ref ds off)))) :: H') = some (.row e' sz' sh' xs' k') → ∃ sh' xs', look m H' = some (.row e' sz' sh' xs' k') := fun m e' sz' sh' xs' k' hm => by
    rw [look_set] at hm
    split at hm
    · cases hm
    · exact ⟨sh', xs', hm⟩
  refine ⟨β, hB'.turn (S := ⟨env, H', gl⟩) hl' (fun _ _ => rfl) rfl rfl rfl (Nat.le_refl _) (fun _ _ _ => rfl) (fun b h => .inl h) (fun _ _ _ _ _ h => h) (fun _ _ _ _ _ => trivial)
    (fun k t x v _ => RepV.keep k (fun _ => rfl) hH x v) (fun _ => rfl) (fun k m cs vs _ _ => RepL.keep k (fun _ => rfl) hH _ vs) (fun k => ?_)⟩
  obtain ⟨b, vs, t, e1, e2, hL⟩ := hB'.obs n _ hl'
  obtain ⟨b0, vs0, t0, e10, e20, hL0⟩ := hB.obs n _ hl
  have hr := RepL.keep k (fun _ => rfl) hH _ _ hL
  rw [e1] at e10
  cases e10
  rw [e2] at e20
  cases e20
  obtain ⟨u, hu1, hu2⟩ := hL0.get hj
  have hu : RepD w (Mut E.C.M0 β ((n, Ob.box (cs0.set j (.d (.ref ds off)))) :: H')) (.ref ds off) u := RepD.keep k _ _ (frz_rep hB hb' hf hsc h2 hne hu2)
  have hs := hr.set j (x := .d (.ref ds off)) (v := u) hu
  rw [show vs.set j u = vs from by
    obtain ⟨h3, h4⟩ := List.getElem?_eq_some_iff.1 hu1
    rw [← h4]; exact List.set_getElem_self h3] at hs
  exact ⟨b, vs, t, e1, e2, hs⟩
end
end
end Go.Proofs.YtjhbglklcddekaaGreatDoor
