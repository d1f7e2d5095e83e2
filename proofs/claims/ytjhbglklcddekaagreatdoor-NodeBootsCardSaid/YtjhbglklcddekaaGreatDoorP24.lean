/- Parts: D41, D42. -/
import Derived.Test.YtjhbglklcddekaaGreatDoorP23
import Derived.ChangeKeysEq
set_option linter.all false
set_option maxRecDepth 100000
set_option maxHeartbeats 16000000
namespace Go.Proofs.YtjhbglklcddekaaGreatDoor
open Go.RowKit
section
section
variable {E : Set} {S : Sd} {dst : Option Tmp} {ty : TypeId} {pos : String} {af : Array Edge} {gd : Option (Nat × Bool)}
theorem q_pair {t e : Nat} {k : IntKind} {x y : Operand} {a b : Int} [ht : TArray E.P t 2 e 1] [hz : TZero E.P t [.d (.int k 0), .d (.int k 0)]] (hx : S.ev x = some (.d (.int k a))) (hy : S.ev y = some (.d (.int k b))) (hox : okOp x = true) (hoy : okOp y = true) :
    Swift E S ⟨dst, .build t #[(0, x), (1, y)], ty, pos, af, gd⟩ (.d (.agg [.int k a, .int k b])) := Swift.mk fun β act w h => by
  obtain ⟨ie, hu, hie, hs, hpos⟩ := array_parts ht
  obtain ⟨i, z, hi, hiz, h1, _⟩ := zero_parts hz
  have h2 := zeroD_rep (w := w) (M := Mut E.C.M0 β S.H) (.d (.d .nil)) h1
  obtain ⟨u0, r0, e0, _, q0, u1, r1, rfl, _, q1, q2⟩ := h2
  simp only [RepA] at q2
  subst q2
  have e1 := h.ev hx hox
  have e2 := h.ev hy hoy
  simp only [RepV, RepD] at e1 e2 q0 q1
  subst q0 q1
  have e0' : z.cells = #[.int k 0, .int k 0] := by rw [← Array.toArray_toList (xs := z.cells), e0]
  refine ⟨.agg #[.int k a, .int k b], fun w' _ => ?_, ⟨[.int k a, .int k b], rfl, ?_⟩⟩
  · simp only [execOp, Sem.run_bind, Instr.build, zeroValue, typeInfo, hi, hiz, run_underlying hu, Sem.run_pure, Result.andThen_ok, program, Sem.run, run_size hie, hs]
    have hf : Instr.fill (fun i => some (i * 1, 1)) #[.int k 0, .int k 0] [(0, .int k a), (1, .int k b)] = some #[.int k a, .int k b] := by simp [Instr.fill, Value.cells]
    have hp : ((#[(0, x), (1, y)] : Array (Nat × Operand)).map fun p => (p.1, act.eval p.2)).toList = [(0, .int k a), (1, .int k b)] := by simp [e1, e2]
    rw [hp, e0', hf]
    rfl
  · exact ⟨_, _, rfl, rfl, rfl, _, _, rfl, rfl, rfl, rfl⟩
theorem q_pair_ne {t e : Nat} {k : IntKind} {yt : TypeId} {x y : Operand} {a b c d : Int} [ht : TArray E.P t 2 e 1] [hk : TInt E.P e k] (hx : S.ev x = some (.d (.agg [.int k a, .int k b]))) (hy : S.ev y = some (.d (.agg [.int k c, .int k d]))) (hox : okOp x = true) (hoy : okOp y = true) (hm : E.P.eqGuardType E.P.depth t = false) :
    Swift E S ⟨dst, .binOp .neq t x y yt, ty, pos, af, gd⟩ (.d (.bool !(a == c && b == d))) := Swift.mk fun β act w h => by
  obtain ⟨ie, hu, hie, hs, hpos⟩ := array_parts ht
  have hk' := int_parts hk
  obtain ⟨us, e1, r1⟩ := h.ev hx hox
  obtain ⟨vs, e2, r2⟩ := h.ev hy hoy
  obtain ⟨u0, ur, rfl, _, q0, u1, ur1, rfl, _, q1, q2⟩ := r1
  obtain ⟨v0, vr, rfl, _, p0, v1, vr1, rfl, _, p1, p2⟩ := r2
  simp only [RepA] at q2 p2
  simp only [RepD] at q0 q1 p0 p1
  subst q2 p2 q0 q1 p0 p1
  refine ⟨.bool !(a == c && b == d), fun w' _ => ?_, rfl⟩
  have key : ∀ dp w', (Op.equalIn (dp + 1 + 1) t (.agg #[.int k a, .int k b]) (.agg #[.int k c, .int k d])).run E.P w' = .ok (a == c && b == d) w' := fun dp w' => by
    have g0 := fun w (v v' : Value) => part_cell (P := E.P) hk' (by simp) (by simp) (xs := [v, v']) (off := 0) (v := v) rfl w
    have g1 := fun w (v v' : Value) => part_cell (P := E.P) hk' (by simp) (by simp) (xs := [v, v']) (off := 1) (v := v') rfl w
    rw [Op.equalIn]
    simp only [Sem.run_bind, run_underlying hu, Result.andThen_ok, run_size hie, hs]
    simp only [Std.Legacy.Range.forIn_eq_forIn_range', Std.Legacy.Range.size, Nat.sub_zero, Nat.add_one_sub_one, Nat.div_one, List.range_eq_range']
    simp only [List.range', List.forIn_cons, List.forIn_nil, Sem.run_bind, Nat.zero_mul, Nat.one_mul, Nat.zero_add, g0, g1, run_equalIn_int _ _ e k k _ _ hk', Result.andThen_ok]
    cases h1 : a == c <;> cases h2 : b == d <;> simp only [Bool.not_true, Bool.not_false, Bool.false_eq_true, if_true, if_false, Bool.true_and, Bool.false_and, Sem.run_pure, Sem.run_bind, Result.andThen_ok, Nat.reduceAdd, g0, g1, run_equalIn_int _ _ e k k _ _ hk', h2]
  simp only [execOp, e1, e2, Sem.run_bind, run_eqGuard_agg w' _ t x y _ _ hm, Result.andThen_ok, run_eql_struct, run_neq_struct, key 9998 w', Sem.run_pure]
theorem q_pair_same {t e : Nat} {k : IntKind} {yt : TypeId} {x y : Operand} {a b : Int} [ht : TArray E.P t 2 e 1] [hk : TInt E.P e k] (hx : S.ev x = some (.d (.agg [.int k a, .int k b]))) (hy : S.ev y = some (.d (.agg [.int k a, .int k b]))) (hox : okOp x = true) (hoy : okOp y = true) (hm : E.P.eqGuardType E.P.depth t = false) :
    Swift E S ⟨dst, .binOp .neq t x y yt, ty, pos, af, gd⟩ (.d (.bool false)) := by
  have h := q_pair_ne (E := E) (S := S) (dst := dst) (ty := ty) (pos := pos) (af := af) (gd := gd) (yt := yt) hx hy hox hoy hm
  rw [show (!(a == a && b == b)) = false by simp] at h
  exact h
theorem q_iarr {t m e sz i : Nat} {x y : Operand} {k : IntKind} {p : Int} {cs ds : List D} [ht : TArray E.P t m e sz] [hc : TAgg E.P e sz] (hx : S.ev x = some (.d (.agg cs))) (hy : S.ev y = some (.d (.int k p))) (hox : okOp x = true) (hoy : okOp y = true) (hi : p = (i : Nat)) (hm : i < m) (hv : Cut cs (i * sz) sz ds) :
    Swift E S ⟨dst, .index t x y, ty, pos, af, gd⟩ (.d (.agg ds)) := Swift.mk fun β a w h => by
  subst hi
  obtain ⟨vs, h1, h2⟩ := h.ev hx hox
  have h1' : a.eval y = .int k (i : Nat) := h.ev hy hoy
  obtain ⟨h3, h4⟩ := hv.eq
  obtain ⟨ie, hu, hie, hs, hpos⟩ := array_parts ht
  obtain ⟨d, i', hu', n1, hi', hs'⟩ := agg_parts hc
  have h5 : RepA w (Mut E.C.M0 β S.H) ds ((vs.drop (i * sz)).take sz) := by rw [h3]; exact (h2.drop (i * sz)).take sz
  refine ⟨.agg ((vs.drop (i * sz)).take sz).toArray, fun w' _ => ?_, _, rfl, h5⟩
  have he : (vs.toArray.extract (i * sz) (i * sz + sz)) = ((vs.drop (i * sz)).take sz).toArray := by simp [List.extract_eq_take_drop]
  have hr : (0 : Int) ≤ (i : Nat) ∧ ((i : Nat) : Int) < (m : Nat) := ⟨by omega, by omega⟩
  simp only [execOp, h1, h1', Instr.index, asIntOf, Sem.run_bind, Sem.run_pure, Result.andThen_ok, run_underlying hu, if_pos hr, run_size hie, hs, Int.toNat_natCast, part, isAgg_yes hu' n1, run_size hi', hs', he, if_true]
end
end
section
def leavesFA (P : Program) (rec : TypeId → Option (List Nat)) : Nat → List Field → Option (List Nat)
  | _, [] => some []
  | off, f :: fs => if f.name == "_" || f.offset != off then none else match rec f.type, P.info? f.type with
    | some l, some i => if i.size == l.length then (leavesFA P rec (off + l.length) fs).map (l ++ ·) else none
    | _, _ => none
def leavesA (P : Program) : Nat → TypeId → Option (List Nat)
  | 0, _ => none
  | d + 1, t => match P.underlying t with
    | some .bool => some [0]
    | some (.int _) => some [1]
    | some .string => some [2]
    | some (.struct fs) => if P.stoodInHeld t then none else leavesFA P (leavesA P d) 0 fs.toList
    | some (.array n e) => match leavesA P d e, P.info? e with
      | some l, some i => if i.size == l.length then some (List.replicate n l).flatten else none
      | _, _ => none
    | _ => none
def eqOkA (P : Program) (t : Nat) (ls : List Nat) : Bool := (match P.underlying t with | some (.struct _) => true | some (.array _ _) => true | _ => false) && leavesA P 8 t == some ls && !P.eqGuardType P.depth t
class TEqA (P : Program) (t : Nat) (ls : outParam (List Nat)) : Prop where
  ok : eqOkA P t ls = true
section
variable {P : Program}
theorem part_arr {t : TypeId} {n e : Nat} (hu : P.underlying t = some (.array n e)) {i : TypeInfo} (hi : P.info? t = some i) {pre us post : List Value} {off : Nat} (ho : pre.length = off) (hn : us.length = i.size) (w : World) :
    (part t (pre ++ us ++ post).toArray off).run P w = .ok (.agg us.toArray) w := by
  have he : ((pre ++ us ++ post).toArray.extract off (off + i.size)) = us.toArray := by
    simp [List.extract_eq_take_drop, ← ho, hn]
  simp only [part, Sem.run_bind, isAgg_yes hu (.inr ⟨n, e, rfl⟩), Result.andThen_ok, if_true, run_size hi, Sem.run_pure, he]
theorem leavesA_eq : ∀ (d D : Nat) (t : TypeId) (ls : List Nat), d ≤ D → leavesA P d t = some ls → ∀ (i : TypeInfo), P.info? t = some i → i.size = ls.length → ∀ (ds es : List Go.Proofs.YtjhbglklcddekaaGreatDoor.D) (p : Prop), EqC ls ds es p → ∀ (pre post pre' post' : List Value) (off : Nat), pre.length = off → pre'.length = off →
    ∃ a c b, (∀ w, (part t (pre ++ ds.map leafV ++ post).toArray off).run P w = .ok a w) ∧ (∀ w, (part t (pre' ++ es.map leafV ++ post').toArray off).run P w = .ok c w) ∧ (∀ w, (Op.equalIn D t a c).run P w = .ok b w) ∧ (b = true) = p ∧ ((∃ fs, P.underlying t = some (.struct fs)) ∨ (∃ n e, P.underlying t = some (.array n e)) → a = .agg (ds.map leafV).toArray ∧ c = .agg (es.map leafV).toArray) := by
  intro d
  induction d with
  | zero => intro D t ls _ h; simp [leavesA] at h
  | succ d ih =>
    intro D t ls hD h i hi hn ds es p hE pre post pre' post' off ho ho'
    obtain ⟨D, rfl⟩ : ∃ D', D = D' + 1 := ⟨D - 1, by omega⟩
    obtain ⟨hl1, hl2⟩ := hE.length
    have get : ∀ (pre post : List Value) (v : Value) (l : List Value), pre.length = off → l = [v] → (pre ++ l ++ post)[off]? = some v := fun pre post v l h1 h2 => by subst h1; subst h2; simp
    unfold leavesA at h
    split at h
    · rename_i hu
      cases h
      obtain ⟨x, y, rfl, rfl, rfl⟩ := hE.inv0
      refine ⟨_, _, x == y, fun w => part_cell hu (by simp) (by simp) (get _ _ (.bool x) _ ho rfl) w, fun w => part_cell hu (by simp) (by simp) (get _ _ (.bool y) _ ho' rfl) w, fun w => run_equalIn_bool' w D t x y hu, ?_, fun hf => ?_⟩
      · simp
      · rcases hf with ⟨_, hf⟩ | ⟨_, _, hf⟩ <;> (rw [hu] at hf; cases hf)
    · rename_i k hu
      cases h
      obtain ⟨k', x, y, rfl, rfl, rfl⟩ := hE.inv1
      refine ⟨_, _, x == y, fun w => part_cell hu (by simp) (by simp) (get _ _ (.int k' x) _ ho rfl) w, fun w => part_cell hu (by simp) (by simp) (get _ _ (.int k' y) _ ho' rfl) w, fun w => run_equalIn_int w D t k' k x y hu, ?_, fun hf => ?_⟩
      · simp
      · rcases hf with ⟨_, hf⟩ | ⟨_, _, hf⟩ <;> (rw [hu] at hf; cases hf)
    · rename_i hu
      cases h
      obtain ⟨x, y, rfl, rfl, rfl⟩ := hE.inv2
      refine ⟨_, _, x.toList == y.toList, fun w => part_cell hu (by simp) (by simp) (get _ _ (.string x) _ ho rfl) w, fun w => part_cell hu (by simp) (by simp) (get _ _ (.string y) _ ho' rfl) w, fun w => run_equalIn_string w D t x y hu, ?_, fun hf => ?_⟩
      · by_cases h : x = y
        · rw [bytes_beq x y (b := true) (propext ⟨fun _ => h, fun _ => rfl⟩)]; simp [h]
        · rw [bytes_beq x y (b := false) (propext ⟨(fun h' => by cases h'), fun h' => absurd h' h⟩)]; simp [h]
      · rcases hf with ⟨_, hf⟩ | ⟨_, _, hf⟩ <;> (rw [hu] at hf; cases hf)
    · rename_i fs hu
      split at h
      · cases h
      · rename_i hst
        have hst : P.stoodInHeld t = false := by simpa using hst
        have hfo : P.fieldsOf t = fs := by unfold Program.fieldsOf; rw [hu]
        have fields : ∀ (fl : List Field) (off : Nat) (ls : List Nat), leavesFA P (leavesA P d) off fl = some ls → ∀ (ds es : List Go.Proofs.YtjhbglklcddekaaGreatDoor.D) (p : Prop), EqC ls ds es p → ∀ (pre pre' : List Value), pre.length = off → pre'.length = off →
            ∃ b, (∀ w, (Op.eqFields D (pre ++ ds.map leafV).toArray (pre' ++ es.map leafV).toArray fl).run P w = .ok b w) ∧ (b = true) = p := by
          intro fl
          induction fl with
          | nil =>
            intro off ls h ds es p hE pre pre' _ _
            simp only [leavesFA, Option.some.injEq] at h
            subst h
            cases hE
            exact ⟨true, fun w => rfl, by simp⟩
          | cons f fl ih2 =>
            intro off ls h ds es p hE pre pre' ho ho'
            simp only [leavesFA] at h
            split at h
            · cases h
            · rename_i hf
              simp only [Bool.or_eq_true, beq_iff_eq, bne_iff_ne, ne_eq, not_or, Decidable.not_not] at hf
              split at h
              · rename_i l i' hl hi'
                split at h
                · rename_i hsz
                  simp only [beq_iff_eq] at hsz
                  obtain ⟨ls', h', rfl⟩ := Option.map_eq_some_iff.1 h
                  obtain ⟨d1, d2, e1, e2, p1, p2, rfl, rfl, h1, h2, rfl⟩ := hE.split l
                  obtain ⟨q1, q2⟩ := h1.length
                  obtain ⟨a, c, b, k1, k2, k3, k4, _⟩ := ih D f.type l (by omega) hl i' hi' hsz d1 e1 p1 h1 pre (d2.map leafV) pre' (e2.map leafV) off ho ho'
                  obtain ⟨b2, k5, k6⟩ := ih2 (off + l.length) ls' h' d2 e2 p2 h2 (pre ++ d1.map leafV) (pre' ++ e1.map leafV) (by simp; omega) (by simp; omega)
                  refine ⟨b && b2, fun w => ?_, ?_⟩
                  · have e1' : (pre ++ (d1 ++ d2).map leafV) = pre ++ d1.map leafV ++ d2.map leafV := by simp
                    have e2' : (pre' ++ (e1 ++ e2).map leafV) = pre' ++ e1.map leafV ++ e2.map leafV := by simp
                    rw [e1', e2']
                    simp only [Op.eqFields, hf.1, ne_eq, not_false_eq_true, if_true, hf.2, Sem.run_bind, k1, k2, k3, Result.andThen_ok]
                    cases b with
                    | false => rfl
                    | true => simp only [Bool.not_true, Bool.false_eq_true, if_false, Bool.true_and]; exact k5 w
                  · rw [← k4, ← k6]
                    simp
                · cases h
              · cases h
        obtain ⟨b, k1, k2⟩ := fields fs.toList 0 ls h ds es p hE [] [] rfl rfl
        refine ⟨.agg (ds.map leafV).toArray, .agg (es.map leafV).toArray, b, fun w => part_agg hu hi ho (by simp; omega) w, fun w => part_agg hu hi ho' (by simp; omega) w, fun w => ?_, k2, fun _ => ⟨rfl, rfl⟩⟩
        rw [run_equalIn_struct w D t _ _ (by rw [hfo]; exact hu) hst, hfo]
        exact k1 w
    · rename_i n e hu
      split at h
      · rename_i l i' hl hi'
        split at h
        · rename_i hsz
          simp only [beq_iff_eq] at hsz
          cases h
          have hce : P.cellsOf e = l.length := by simp [Program.cellsOf, hi', hsz]
          have items : ∀ (m j : Nat) (ds es : List Go.Proofs.YtjhbglklcddekaaGreatDoor.D) (p : Prop), EqC (List.replicate m l).flatten ds es p → ∀ (pre pre' : List Value), pre.length = j * l.length → pre'.length = j * l.length →
              ∃ b, (∀ w, (Op.eqItems D e (P.cellsOf e) (pre ++ ds.map leafV).toArray (pre' ++ es.map leafV).toArray (List.range' j m)).run P w = .ok b w) ∧ (b = true) = p := by
            intro m
            induction m with
            | zero =>
              intro j ds es p hE pre pre' _ _
              simp only [List.replicate_zero, List.flatten_nil] at hE
              cases hE
              exact ⟨true, fun w => by simp [Op.eqItems], by simp⟩
            | succ m ih2 =>
              intro j ds es p hE pre pre' ho ho'
              rw [List.replicate_succ, List.flatten_cons] at hE
              obtain ⟨d1, d2, e1, e2, p1, p2, rfl, rfl, h1, h2, rfl⟩ := hE.split l
              obtain ⟨q1, q2⟩ := h1.length
              obtain ⟨a, c, b, k1, k2, k3, k4, _⟩ := ih D e l (by omega) hl i' hi' hsz d1 e1 p1 h1 pre (d2.map leafV) pre' (e2.map leafV) (j * l.length) ho ho'
              obtain ⟨b2, k5, k6⟩ := ih2 (j + 1) d2 e2 p2 h2 (pre ++ d1.map leafV) (pre' ++ e1.map leafV) (by simp [Nat.add_mul]; omega) (by simp [Nat.add_mul]; omega)
              refine ⟨b && b2, fun w => ?_, ?_⟩
              · have e1' : (pre ++ (d1 ++ d2).map leafV) = pre ++ d1.map leafV ++ d2.map leafV := by simp
                have e2' : (pre' ++ (e1 ++ e2).map leafV) = pre' ++ e1.map leafV ++ e2.map leafV := by simp
                rw [e1', e2', List.range'_succ]
                simp only [Op.eqItems, Sem.run_bind, hce, k1, k2, k3, Result.andThen_ok]
                cases b with
                | false => simp
                | true =>
                  have := k5 w
                  rw [hce] at this
                  simpa using this
              · rw [← k4, ← k6]
                simp
          obtain ⟨b, k1, k2⟩ := items n 0 ds es p hE [] [] (by simp) (by simp)
          refine ⟨.agg (ds.map leafV).toArray, .agg (es.map leafV).toArray, b, fun w => part_arr hu hi ho (by simp; omega) w, fun w => part_arr hu hi ho' (by simp; omega) w, fun w => ?_, k2, fun _ => ⟨rfl, rfl⟩⟩
          rw [run_equalIn_array w D _ _ hu hi', List.range_eq_range']
          exact k1 w
        · cases h
      · cases h
    · cases h
theorem eq_aggA {t : Nat} {ls : List Nat} (h : TEqA P t ls) [hs : TAgg P t ls.length] {ds es : List D} {p : Prop} (hE : EqC ls ds es p) : ∃ b, (b = true) = p ∧ ∀ w, (Op.equalIn 10000 t (.agg (ds.map leafV).toArray) (.agg (es.map leafV).toArray)).run P w = .ok b w := by
  have h1 := h.ok
  unfold eqOkA at h1
  simp only [Bool.and_eq_true, beq_iff_eq, Bool.not_eq_true'] at h1
  obtain ⟨⟨h2, h3⟩, h4⟩ := h1
  obtain ⟨d, i, hu, hd, hi, hsz⟩ := agg_parts hs
  obtain ⟨a, c, b, _, _, k3, k4, k5⟩ := leavesA_eq 8 10000 t ls (by omega) h3 i hi hsz ds es p hE [] [] [] [] 0 rfl rfl
  obtain ⟨rfl, rfl⟩ := k5 (by
    split at h2
    · rename_i fs hu'; exact .inl ⟨fs, hu'⟩
    · rename_i n e hu'; exact .inr ⟨n, e, hu'⟩
    · cases h2)
  exact ⟨b, k4, k3⟩
end
section
variable {E : Set} {S : Sd} {dst : Option Tmp} {ty : TypeId} {pos : String} {af : Array Edge} {gd : Option (Nat × Bool)}
theorem q_aggA_eq {t : Nat} {yt : TypeId} {x y : Operand} {ls : List Nat} {ds es : List D} {p : Prop} [ht : TEqA E.P t ls] [hs : TAgg E.P t ls.length] (hx : S.ev x = some (.d (.agg ds))) (hy : S.ev y = some (.d (.agg es))) (hox : okOp x = true) (hoy : okOp y = true) (hE : EqC ls ds es p) (hp : p) :
    Swift E S ⟨dst, .binOp .eql t x y yt, ty, pos, af, gd⟩ (.d (.bool true)) := by
  obtain ⟨b, h1, h2⟩ := eq_aggA (P := E.P) (t := t) ht hE
  have hm : E.P.eqGuardType E.P.depth t = false := by
    have := ht.ok
    unfold eqOkA at this
    simp only [Bool.and_eq_true, Bool.not_eq_true'] at this
    exact this.2
  have hb : b = true := by rw [h1]; exact hp
  subst hb
  refine Swift.mk fun β a w h => ⟨.bool true, fun w' _ => ?_, rfl⟩
  obtain ⟨us, e1, r1⟩ := h.ev hx hox
  obtain ⟨vs, e2, r2⟩ := h.ev hy hoy
  rw [(hE.rep (w := w) (M := Mut E.C.M0 β S.H)).1 us r1] at e1
  rw [(hE.rep (w := w) (M := Mut E.C.M0 β S.H)).2 vs r2] at e2
  simp only [execOp, e1, e2, Sem.run_bind, run_eqGuard_agg w' _ t x y _ _ hm, Result.andThen_ok, run_eql_struct, run_neq_struct, h2 w', Sem.run_pure]
end
end
end Go.Proofs.YtjhbglklcddekaaGreatDoor
