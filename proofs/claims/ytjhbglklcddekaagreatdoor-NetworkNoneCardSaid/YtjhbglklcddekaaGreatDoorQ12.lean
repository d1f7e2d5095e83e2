/- Parts: D21, D22, D23. -/
import Derived.Test.YtjhbglklcddekaaGreatDoorQ11
set_option linter.all false
set_option maxRecDepth 100000
set_option maxHeartbeats 16000000
namespace Go.Proofs.YtjhbglklcddekaaGreatDoor
open Go.RowKit
section
section
variable {E : Set} {Q : Exit → Sd → Prop} {ops : Array Oper} {draw : Bool} {rest : Todo} {way : Way3} {ty : TypeId} {pos : String} {af : Array Edge} {gd : Option (Nat × Bool)} {dst : Option Tmp}
variable {env : List (Nat × V)} {H : List (Nat × Ob)} {gl : List (Nat × List D)} {d : Nat}
theorem run_index_arr {P : Program} {t m e sz : Nat} (ht : TArray P t m e sz) {b o i : Nat} {k : IntKind} (hi : i < m) (w : World) : (Instr.indexAt t (.pointer (some ⟨b, o, none⟩)) (.int k (i : Nat))).run P w = .ok (.pointer (some ⟨b, o + i * sz, none⟩)) w := by
  obtain ⟨ie, hu, hie, hs, _⟩ := array_parts ht
  have h1 : (i : Int) < (m : Int) := by omega
  have h2 : ¬ m ≤ i := by omega
  simp [Instr.indexAt, asIntOf, run_underlying hu, h1, h2, run_size hie, hs, add_flat, Instr.sureAddr, hi]
theorem q_index_arr {S : Sd} {t m e sz i n off : Nat} {x y : Operand} {k : IntKind} {p : Int} [ht : TArray E.P t m e sz] (hx : S.ev x = some (.ptr n off)) (hy : S.ev y = some (.d (.int k p))) (hox : okOp x = true) (hoy : okOp y = true) (hi : p = (i : Nat)) (hm : i < m) :
    Swift E S ⟨dst, .indexAddr t x y, ty, pos, af, gd⟩ (.ptr n (off + i * sz)) := Swift.mk fun β a w h => by
  subst hi
  obtain ⟨b, h1, h2⟩ := h.ev hx hox
  have h3 : a.eval y = .int k (i : Nat) := h.ev hy hoy
  refine ⟨.pointer (some ⟨b, off + i * sz, none⟩), fun w' _ => ?_, b, h1, rfl⟩
  simp [execOp, h2, h3, run_index_arr ht hm]
theorem q_len_sl {S : Sd} {t e sz n off l c : Nat} {x : Operand} [ht : TSlice E.P t e sz] (hx : S.ev x = some (.sl n off l c)) (hox : okOp x = true) : Swift E S ⟨dst, .call { callee := .builtin .len, args := #[x], argTypes := #[t] }, ty, pos, af, gd⟩ (.d (.int .i64 (l : Nat))) := Swift.mk fun β a w h => by
  obtain ⟨ie, hu, _⟩ := slice_parts ht
  obtain ⟨b, h1, h2⟩ := h.ev hx hox
  refine ⟨.int .i64 (l : Nat), fun w' _ => ?_, rfl⟩
  simp [execOp, resolve, invoke, builtin, h2, Builtin.len_, goInt, run_underlying hu]
theorem StB.row_shape {C : Ctx} {S : Sd} {β : Nat → Hd} {a : Act} {w : World} (h : StB C β S a w) {n e sz k : Nat} {sh : Bool} {xs : List D} (hl : look n S.H = some (.row e sz sh xs k)) : ∃ ad c, (β n).v = .slice ad xs.length c ∧ xs.length ≤ c ∧ (ad = none → c = 0) ∧ (∀ p, ad = some p → ∃ b, p = ⟨b, 0, none⟩) := by
  obtain ⟨ys, h1, _⟩ := h.obs n _ hl
  rcases h1.2 with ⟨q1, q2⟩ | ⟨g, cap, cur, q, _, _, q3, _⟩
  · exact ⟨none, 0, by rw [q1, q2], by omega, fun _ => rfl, fun p hp => by cases hp⟩
  · exact ⟨_, cap, q, q3, (fun e => by cases e), fun p hp => by cases hp; exact ⟨_, rfl⟩⟩
theorem tc_suf {c : Code} {t n k e sz : Nat} {sh : Bool} {xs : List D} (hl : look t env = some (.own n k)) (hn : look n H = some (.row e sz sh xs k)) (h : TC E c Q ⟨(t, .suf n k 0) :: env, H, gl⟩) : TC E c Q ⟨env, H, gl⟩ := fun a w ⟨β, hB⟩ => by
  refine h a w ⟨β, { hB with env := fun s v hs => ?_ }⟩
  dsimp only at hs
  rw [look_cons] at hs
  split at hs
  · rename_i e'
    subst e'
    cases hs
    obtain ⟨x, h2, h3⟩ := hB.env t _ hl
    refine ⟨x, h2, fun e1 sz1 sh1 xs1 hl1 => ?_⟩
    obtain ⟨ad, c, h4, h5, h6, h7⟩ := hB.row_shape hl1
    refine ⟨ad, xs1.length, c, ad, h4, Nat.zero_le _, ?_, fun _ => ?_, Iff.rfl⟩
    · rw [h3 e1 sz1 sh1 xs1 hl1, h4]
      rfl
    · cases ad with
      | none => rfl
      | some p =>
        obtain ⟨b, rfl⟩ := h7 p rfl
        simp [add_flat]
  · exact hB.env s v hs
theorem run_slice_lo {P : Program} {t e sz : Nat} (ht : TSlice P t e sz) (a : Option Addr) (n c l : Nat) (k : IntKind) (hl : l ≤ n) (w : World) : (Instr.slice t (.slice a n c) (some (.int k (l : Nat))) none none).run P w = .ok (sliced a l n c sz) w := by
  obtain ⟨ie, hu, hie, hs, hpos⟩ := slice_parts ht
  have hb : (Instr.sliceBounds true n c (some (.int k (l : Nat))) none none).run P w = .ok (l, n, c) w := by
    have : (l : Int) ≤ (n : Int) := by omega
    simp [Instr.sliceBounds, Instr.sliceBound, asIntOf, this, show ¬ n < l by omega]
  simp [run_underlying hu, Instr.slice, hb, run_size hie, hs, sliced]
theorem q_slice_suf {S : Sd} {t e sz n k p l e' : Nat} {sh : Bool} {xs : List D} {x lo : Operand} {li : IntKind} {lv : Int} [ht : TSlice E.P t e sz] (hx : S.ev x = some (.suf n k p)) (hox : okOp x = true) (hl : look n S.H = some (.row e' sz sh xs k)) (hlo : S.ev lo = some (.d (.int li lv))) (hol : okOp lo = true) (el : lv = (l : Nat)) (hlm : p + l ≤ xs.length) :
    Swift E S ⟨dst, .slice t x (some lo) none none, ty, pos, af, gd⟩ (.suf n k (p + l)) := Swift.mk fun β a w h => by
  subst el
  obtain ⟨ad, ll, c, ad1, h1, h2, h3, h4, hnn⟩ := h.ev hx hox e' sz sh xs hl
  obtain ⟨ad', c', h4', h5, h6, h7⟩ := h.row_shape hl
  rw [h1] at h4'
  simp only [Value.slice.injEq] at h4'
  obtain ⟨rfl, rfl, rfl⟩ := h4'
  have hv : a.eval lo = .int li (l : Nat) := h.ev hlo hol
  refine ⟨sliced ad1 l (xs.length - p) (c - p) sz, fun w' _ => ?_, fun e2 sz2 sh2 xs2 hl2 => ?_⟩
  · have := run_slice_lo (P := E.P) ht ad1 (xs.length - p) (c - p) l li (by omega) w'
    obtain ⟨ie, hu, _⟩ := slice_parts ht
    simp [execOp, Instr.sliceAt, h3, hv, this, run_underlying hu]
  · rw [hl] at hl2
    cases hl2
    refine ⟨ad, xs.length, c, if c - p = l then ad1 else ad1.map (·.add (l * sz)), h1, hlm, ?_, fun hne => ?_, by rw [← hnn]; split <;> simp⟩
    · unfold sliced
      rw [Nat.sub_sub, Nat.sub_sub]
    · rw [if_neg (by omega), h4 (by omega)]
      cases ad with
      | none => rfl
      | some q =>
        obtain ⟨b, rfl⟩ := h7 q rfl
        simp [add_flat, Nat.add_mul]
theorem q_len_suf {S : Sd} {t e sz n k p e' sz' m : Nat} {sh : Bool} {xs : List D} {x : Operand} [ht : TSlice E.P t e sz] (hx : S.ev x = some (.suf n k p)) (hox : okOp x = true) (hl : look n S.H = some (.row e' sz' sh xs k)) (hm : xs.length - p = m) : Swift E S ⟨dst, .call { callee := .builtin .len, args := #[x], argTypes := #[t] }, ty, pos, af, gd⟩ (.d (.int .i64 (m : Nat))) := Swift.mk fun β a w h => by
  subst hm
  obtain ⟨ie, hu, _⟩ := slice_parts ht
  obtain ⟨ad, ll, c, ad1, h1, h2, h3, _⟩ := h.ev hx hox e' sz' sh xs hl
  obtain ⟨ad', c', h4, h5, h6, h7⟩ := h.row_shape hl
  rw [h1] at h4
  simp only [Value.slice.injEq] at h4
  obtain ⟨rfl, rfl, rfl⟩ := h4
  refine ⟨.int .i64 ((xs.length - p : Nat) : Int), fun w' _ => ?_, rfl⟩
  simp [execOp, resolve, invoke, builtin, h3, Builtin.len_, goInt, run_underlying hu]
theorem q_index_suf {S : Sd} {t e sz i n k' e' p : Nat} {sh : Bool} {x y : Operand} {xs : List D} {k : IntKind} {m : Int} [ht : TSlice E.P t e sz] (hx : S.ev x = some (.suf n k' p)) (hl : look n S.H = some (.row e' sz sh xs k')) (hy : S.ev y = some (.d (.int k m))) (hox : okOp x = true) (hoy : okOp y = true) (hi : m = (i : Nat)) (hz : p + i < xs.length) :
    Swift E S ⟨dst, .indexAddr t x y, ty, pos, af, gd⟩ (.el n k' (p + i) 0) := Swift.mk fun β a w h => by
  subst hi
  obtain ⟨ad, ll, c, ad1, h1, h2, h3, h4, _⟩ := h.ev hx hox e' sz sh xs hl
  obtain ⟨ys, h2', _⟩ := h.obs n _ hl
  have h5 : a.eval y = .int k (i : Nat) := h.ev hy hoy
  rcases h2'.2 with ⟨q1, q2⟩ | ⟨g, cap, cur, q, _, _, q3, _⟩
  · omega
  · rw [h1] at q
    simp only [Value.slice.injEq] at q
    obtain ⟨rfl, rfl, rfl⟩ := q
    have hne : ¬ c = p := by omega
    have h6 : a.eval x = .slice (some ⟨g, p * sz, none⟩) (xs.length - p) (c - p) := by rw [h3, h4 hne]; simp [add_flat]
    refine ⟨.pointer (some ⟨g, (p + i) * sz, none⟩), fun w' _ => ?_, fun e2 sz2 sh2 xs2 hl2 => ?_⟩
    · have := run_indexAt (P := E.P) ht (b := g) (o := p * sz) (n := xs.length - p) (c := c - p) (k := k) (i := i) (by omega) w'
      rw [Nat.add_mul]
      simp [execOp, h6, h5, this]
    · rw [hl] at hl2
      cases hl2
      exact ⟨g, _, c, h1, rfl⟩
end
end
section
theorem StB.moved {C : Ctx} {β : Nat → Hd} {S : Sd} {a : Act} {w w' : World} (h : StB C β S a w) {n e sz k : Nat} {sh : Bool} {xs zs : List D} (hl : look n S.H = some (.row e sz sh xs k)) {v' : Value} {news : List Value}
    (hown : w'.ownsRow 0 e sz v' zs.length news) (hz : RepE w (Mut C.M0 β S.H) sz zs news) (hnew : ∀ b, v'.ownBlock = some b → w.heap.size ≤ b) (hg : w.grownBy w' none) (k' : Nat) (hk : max (topE S.env) (topO S.H) ≤ k') (hN : C.N.contains n = false) :
    StB C (upd β n v') { S with H := (n, .row e sz true zs k') :: S.H } a w' := by
  have hbn := hb_row hown
  have hsl0 : ∃ a n' c, (β n).v = .slice a n' c := by
    obtain ⟨ys, h1, _⟩ := h.obs n _ hl
    obtain ⟨a, c, e, _⟩ := owns_shape h1
    exact ⟨a, _, c, e⟩
  have hH : ∀ m, m ≠ n → look m ((n, Ob.row e sz true zs k') :: S.H) = look m S.H := fun m hm => by rw [look_set, if_neg (Ne.symm hm)]
  have hq : ∀ e' sz' sh' xs' k'', look n ((n, Ob.row e sz true zs k') :: S.H) = some (.row e' sz' sh' xs' k'') → max (topE S.env) (topO S.H) ≤ k'' := fun e' sz' sh' xs' k'' h1 => by
    rw [look_set, if_pos rfl] at h1
    cases h1
    exact hk
  refine h.turn hl (fun m hm => upd_other β n v' hm) hg.os hg.tape hg.output hg.size (fun q hq _ => hg.block q hq (by simp)) (fun b hb' => ?_) (fun b o y hb' hm hc => ?_) (fun b o h1 h2 h3 => ?_)
    (fun kp t x v hx hv => RepV.bump kp (fun m hm => upd_other β n v' hm) hsl0 hH hq x v (by have := topE_look hx; omega) hv)
    (fun hm => absurd hm (by simpa using hN))
    (fun kp m cs vs _ hm hv => RepL.bump kp (fun m hm => upd_other β n v' hm) hsl0 hH hq _ vs (by have := topO_look hm; omega) hv) (fun kp => ?_)
  · rw [upd_v, hbn] at hb'
    exact .inr (hnew b hb')
  · rw [← hc]
    exact World.cell?_of_block (hg.block b (h.old hl (.inl hb')) (by simp))
  · rw [upd_v, hbn] at h2
    have := hnew b h2
    have := h.old hl (.inl h1)
    omega
  · rw [upd_same]
    exact ⟨news, hown, RepE.keep kp _ _ _ hz⟩
section
variable {E : Set} {Q : Exit → Sd → Prop} {ops : Array Oper} {draw : Bool} {rest : Todo} {way : Way3} {ty : TypeId} {pos : String} {af : Array Edge} {gd : Option (Nat × Bool)} {dst : Option Tmp}
variable {env : List (Nat × V)} {H : List (Nat × Ob)} {gl : List (Nat × List D)} {d : Nat}
theorem s_append_suf {t e sz n k p : Nat} {s x : Operand} {v : V} {xs ys : List D} [ht : TSlice E.P t e sz] (hs : Sd.ev ⟨env, H, gl⟩ s = some (.suf n k p)) (hos : okOp s = true) (hl : look n H = some (.row e sz true xs k)) (hx : Sd.ev ⟨env, H, gl⟩ x = some v) (hox : okOp x = true) (hy : ToD H v (.list sz ys))
    (hpos : 0 < ys.length) (hlen : xs.length + ys.length ≤ 100000000000) (hN : E.C.N.contains n = false) (hd : d < E.C.nt) (hg : Sd.gd ⟨env, H, gl⟩ ops ⟨some d, .call { callee := .builtin .append, args := #[s, x], argTypes := #[t, t] }, ty, pos, af, gd⟩ = some true) (hw : isBar draw way = true)
    (h : ∀ xs' p' k', xs'.drop p' = xs.drop p ++ ys → p' ≤ xs'.length → xs'.length ≤ xs.length + ys.length → TR E draw ops Q rest ⟨(d, .suf n k' p') :: env, (n, .row e sz true xs' k') :: H, gl⟩) :
    TR E draw ops Q (.step ⟨some d, .call { callee := .builtin .append, args := #[s, x], argTypes := #[t, t] }, ty, pos, af, gd⟩ way rest) ⟨env, H, gl⟩ := by
  have key : ∀ β a w, StB E.C β ⟨env, H, gl⟩ a w → ∃ r w' β' xs' p' k', (execOp a.eval ⟨some d, .call { callee := .builtin .append, args := #[s, x], argTypes := #[t, t] }, ty, pos, af, gd⟩).run E.P w = .ok (.value r) w' ∧ xs'.drop p' = xs.drop p ++ ys ∧ p' ≤ xs'.length ∧ xs'.length ≤ xs.length + ys.length ∧
      StB E.C β' ⟨env, (n, .row e sz true xs' k') :: H, gl⟩ a w' ∧ RepV w' (Mut E.C.M0 β' ((n, .row e sz true xs' k') :: H)) β' ((n, .row e sz true xs' k') :: H) (.suf n k' p') r := fun β a w hB => by
    obtain ⟨bytes, he, hby⟩ := slice_elem ht
    have he' := he
    obtain ⟨i, z, hu, hi, hz, hsize, hbytes, hzs, hps⟩ := he'
    obtain ⟨ad, ll, c, ad1, h1, h2, h3, h4, hnn⟩ := hB.ev hs hos e sz true xs hl
    obtain ⟨olds, h5, h6⟩ := hB.obs n _ hl
    obtain ⟨xa, xc, news, q1, q2, q4, q3, q5, q6⟩ := hy.rep hB (hB.ev hx hox)
    have hnl : news.length = ys.length * sz := q5.length
    obtain ⟨bx, ox, hxa⟩ : ∃ b o, xa = some ⟨b, o, none⟩ := by
      have : 0 < news.length := by rw [hnl]; exact Nat.mul_pos hpos hps
      obtain ⟨b, o, e1, _, _⟩ := q6 0 news[0] (by simp [this])
      exact ⟨b, o, e1⟩
    subst hxa
    have hrd : ∀ j u, news[j]? = some u → w.cell? ((⟨bx, ox, none⟩ : Addr).add j) = some u := fun j u hj => by
      obtain ⟨b, o, e1, _, e2⟩ := q6 j u hj
      cases e1
      rw [add_flat]
      exact e2
    have hmul : ∀ m, m ≤ 100000000000 → m * bytes ≤ 140737488355328 := fun m hm => Nat.le_trans (Nat.mul_le_mul hm hby) (by omega)
    rcases h5.2 with ⟨r1, r2⟩ | ⟨g, cap, cur, r1, _, r2, r3, r4, r5, r6⟩
    · -- the row is nil
      have hx0 : xs = [] := List.eq_nil_of_length_eq_zero r2
      subst hx0
      rw [h1] at r1
      simp only [Value.slice.injEq] at r1
      obtain ⟨rfl, rfl, rfl⟩ := r1
      have hp0 : p = 0 := by omega
      subst hp0
      have ho0 : olds = [] := List.eq_nil_of_length_eq_zero (by rw [h5.1]; simp)
      subst ho0
      obtain ⟨v', w', k1, k2, k3⟩ := run_app (P := E.P) (ty := ty) w he h5 (xa := some ⟨bx, ox, none⟩) (m := ys.length) (xc := xc) (news := news) hnl (fun j u hj => by obtain ⟨b, o, e1, _, e2⟩ := q6 j u hj; exact ⟨b, o, e1, e2⟩) q3 q2 q5.one (by simp at hlen ⊢; omega) hby
      have hap := hB.append hl h5 h6 q5 k2 k3 _ (Nat.le_refl _) hN
      have hs0 : a.eval s = (β n).v := by rw [h3, h1, hnn.2 rfl]
      refine ⟨v', w', _, [] ++ ys, 0, _, run_append_op (by rw [hs0, q1]; exact k1), by simp, Nat.zero_le _, by simp, hap, fun e1 sz1 sh1 xs1 hl1 => ?_⟩
      rw [look_set, if_pos rfl] at hl1
      cases hl1
      obtain ⟨a9, c9, e9, _⟩ := owns_shape k2
      have ha9 : ∀ q, a9 = some q → ∃ b, q = ⟨b, 0, none⟩ := fun q hq => by
        rcases k2.2 with ⟨f1, _⟩ | ⟨g9, cap9, cur9, f1, _⟩
        · rw [e9] at f1; simp only [Value.slice.injEq] at f1; rw [f1.1] at hq; cases hq
        · rw [e9] at f1
          simp only [Value.slice.injEq] at f1
          rw [f1.1] at hq
          cases hq
          exact ⟨_, rfl⟩
      refine ⟨a9, _, c9, a9, by rw [upd_v]; exact e9, Nat.zero_le _, by rw [e9]; rfl, fun _ => ?_, Iff.rfl⟩
      cases a9 with
      | none => rfl
      | some q =>
        obtain ⟨b, rfl⟩ := ha9 q rfl
        simp [add_flat]
    · rw [h1] at r1
      simp only [Value.slice.injEq] at r1
      obtain ⟨rfl, rfl, rfl⟩ := r1
      obtain ⟨b1, rfl⟩ : ∃ b1, ad1 = some b1 := by
        cases ad1 with
        | none => have := hnn.1 rfl; cases this
        | some b1 => exact ⟨b1, rfl⟩
      by_cases hroom : xs.length + ys.length ≤ c
      · -- in the row's own block
        have hne : c ≠ p := by omega
        have hb1 : b1 = ⟨g, p * sz, none⟩ := by have := h4 hne; simpa [add_flat] using this
        subst hb1
        obtain ⟨w', k1, k2, k3⟩ := run_append_fits (P := E.P) w 0 t ty e i sz hu hi hsize g xs.length c olds (by rw [← h1]; exact h5) ⟨bx, ox, none⟩ ys.length xc news hnl hrd q5.one hroom
        have hcell : ∀ j, j < news.length → (w.cell? ⟨g, xs.length * sz + j, none⟩).isSome = true := fun j hj => by
          have : xs.length * sz + j < cur.size := by
            rw [r5]
            rw [hnl] at hj
            have : (xs.length + ys.length) * sz ≤ c * sz := Nat.mul_le_mul_right _ hroom
            rw [Nat.add_mul] at this
            omega
          simp [World.cell?, r2, this]
        have hfz : ∀ j, j < news.length → w.frozen? ⟨g, xs.length * sz + j, none⟩ = false := fun j hj => by simp [World.frozen?, r2]
        have k4 := run_append_room_cells (P := E.P) w t ty e i hu hi g 0 xs.length c ⟨bx, ox, none⟩ ys.length xc news (by rw [hsize]; exact hnl) hrd q5.one hroom (by rw [hsize]; intro j hj; rw [Nat.zero_add]; exact hcell j hj) (by rw [hsize]; intro j hj; rw [Nat.zero_add]; exact hfz j hj)
        have e0 : p * sz + (xs.length - p) * sz = xs.length * sz := by rw [← Nat.add_mul]; congr 1; omega
        have k5 := run_append_room_cells (P := E.P) w t ty e i hu hi g (p * sz) (xs.length - p) (c - p) ⟨bx, ox, none⟩ ys.length xc news (by rw [hsize]; exact hnl) hrd q5.one (by omega) (by rw [hsize, e0]; exact hcell) (by rw [hsize, e0]; exact hfz)
        rw [k1] at k4
        simp only [Result.ok.injEq, hsize, Nat.zero_add] at k4
        rw [hsize, e0, ← k4.2] at k5
        have hap := hB.append hl h5 h6 q5 k2 (.inl ⟨by rw [h1]; rfl, by rw [h1]; exact k3⟩) _ (Nat.le_refl _) hN
        refine ⟨_, w', _, xs ++ ys, p, _, run_append_op (by rw [h3, q1]; exact k5), by rw [List.drop_append_of_le_length h2], by simp; omega, by simp, hap, fun e1 sz1 sh1 xs1 hl1 => ?_⟩
        rw [look_set, if_pos rfl] at hl1
        cases hl1
        refine ⟨some ⟨g, 0, none⟩, _, c, some ⟨g, p * sz, none⟩, by rw [upd_v], by omega, ?_, fun _ => by simp [add_flat], by simp⟩
        congr 1
        omega
      · -- in a new one
        have hod : (olds.drop (p * sz)).length = (xs.length - p) * sz := by rw [List.length_drop, h5.1, Nat.sub_mul]
        have hold : ∀ j u, (olds.drop (p * sz))[j]? = some u → w.cell? (b1.add j) = some u := fun j u hj => by
          have hjl : j < (olds.drop (p * sz)).length := (List.getElem?_eq_some_iff.1 hj).1
          have hne : c ≠ p := by
            rintro rfl
            have : xs.length - c = 0 := by omega
            rw [hod, this] at hjl
            omega
          have hb1 : b1 = ⟨g, p * sz, none⟩ := by have := h4 hne; simpa [add_flat] using this
          subst hb1
          rw [List.getElem?_drop] at hj
          have := h5.cells (g := g) (by rw [h1]; rfl) _ u hj
          rw [add_flat, Nat.zero_add] at this
          rw [add_flat]
          exact this
        obtain ⟨v', w', k1, k2, k3⟩ := run_append_arg_grows (P := E.P) w t ty e i z sz bytes hu hi hz hsize hbytes hzs hps b1 (xs.length - p) (c - p) (olds.drop (p * sz)) hod hold ⟨bx, ox, none⟩ ys.length xc news hnl hrd (by omega) (by unfold maxLen; omega) (hmul _ (by omega))
        have hz' : RepE w (Mut E.C.M0 β H) sz (xs.drop p ++ ys) (olds.drop (p * sz) ++ news) := (RepE.drop p h6 h2).append q5
        have hlen' : (xs.drop p ++ ys).length = xs.length - p + ys.length := by simp
        have hmv := hB.moved hl (owns_mono (by rw [hlen']; exact k2) (Nat.zero_le _)) hz' (fun b hb' => (k2.lt b hb').1) k3 _ (Nat.le_refl _) hN
        refine ⟨v', w', _, xs.drop p ++ ys, 0, _, run_append_op (by rw [h3, q1]; exact k1), by simp, Nat.zero_le _, by simp, hmv, fun e1 sz1 sh1 xs1 hl1 => ?_⟩
        rw [look_set, if_pos rfl] at hl1
        cases hl1
        obtain ⟨a9, c9, e9, _⟩ := owns_shape k2
        have ha9 : ∀ q, a9 = some q → ∃ b, q = ⟨b, 0, none⟩ := fun q hq => by
          rcases k2.2 with ⟨f1, _⟩ | ⟨g9, cap9, cur9, f1, _⟩
          · rw [e9] at f1; simp only [Value.slice.injEq] at f1; rw [f1.1] at hq; cases hq
          · rw [e9] at f1
            simp only [Value.slice.injEq] at f1
            rw [f1.1] at hq
            cases hq
            exact ⟨_, rfl⟩
        refine ⟨a9, _, c9, a9, by rw [upd_v]; exact e9, Nat.zero_le _, by rw [e9]; rfl, fun _ => ?_, Iff.rfl⟩
        cases a9 with
        | none => rfl
        | some q =>
          obtain ⟨b, rfl⟩ := ha9 q rfl
          simp [add_flat]
  intro a w hS
  have hS0 := hS
  have key2 : ∀ w1, Grows w w1 → ∀ K : Act → World → Prop, (∀ xs' p' k' a2 w2, xs'.drop p' = xs.drop p ++ ys → p' ≤ xs'.length → xs'.length ≤ xs.length + ys.length → St E.C ⟨(d, .suf n k' p') :: env, (n, .row e sz true xs' k') :: H, gl⟩ a2 w2 → K a2 w2) → Oper.wp E.P ⟨some d, .call { callee := .builtin .append, args := #[s, x], argTypes := #[t, t] }, ty, pos, af, gd⟩ a w1 K (Qof E.C Q) := fun w1 g K hK => by
    obtain ⟨β, hB⟩ := hS.later g
    obtain ⟨r, w', β', xs', p', k', h1, h2, h3, h4, h5, h6⟩ := key β a w1 hB
    exact wp_value h1 (hK xs' p' k' _ _ h2 h3 h4 ⟨β', h5.put hd h6⟩)
  cases draw with
  | true =>
    dsimp only
    cases way with
    | pure => cases hw
    | quiet => cases hw
    | grow => cases hw
    | bar =>
      simp only [wpMix3]
      intro n
      rw [Sd.gd_sound hS0 hg, if_pos rfl]
      exact key2 n.w n.grows _ fun xs' p' k' a2 w2 q1 q2 q3 hs2 => h xs' p' k' q1 q2 q3 _ _ hs2
  | false => exact listIn_of_wp hS0 hg rfl fun K hK => key2 w (Grows.refl w) K fun xs' p' k' a2 w2 q1 q2 q3 hs2 => hK _ _ (h xs' p' k' q1 q2 q3 _ _ hs2)
end
end
section
section
variable {E : Set} {Q : Exit → Sd → Prop} {ops : Array Oper} {draw : Bool} {rest : Todo} {way : Way3} {ty : TypeId} {pos : String} {af : Array Edge} {gd : Option (Nat × Bool)} {dst : Option Tmp}
variable {env : List (Nat × V)} {H : List (Nat × Ob)} {gl : List (Nat × List D)} {d : Nat}
theorem tc_share {c : Code} (n : Nat) {e sz k : Nat} {sh : Bool} {xs : List D} (hn : look n H = some (.row e sz sh xs k)) (h : TC E c Q ⟨env, (n, .row e sz true xs k) :: H, gl⟩) : TC E c Q ⟨env, H, gl⟩ := fun a w ⟨β, hB⟩ => h a w ⟨β, hB.share hn⟩
inductive Frz (H : List (Nat × Ob)) : List V → List D → List Nat → Prop
  | nil : Frz H [] [] []
  | cons {v : V} {x : D} {vs : List V} {xs : List D} {ms : List Nat} (h : ToD H v x) (t : Frz H vs xs ms) : Frz H (v :: vs) (x :: xs) ms
  | map {m : Nat} {ks us : List D} {vs : List V} {xs : List D} {ms : List Nat} (h : look m H = some (.map ks us)) (t : Frz H vs xs ms) : Frz H (.map m :: vs) (.map ks us :: xs) (m :: ms)
theorem tc_freeze {c : Code} {t n off : Nat} {cs : List V} {ds : List D} {ms : List Nat} {env' : List (Nat × V)} {H' : List (Nat × Ob)} (hl : look t env = some (.ptr n off)) (hb' : look n H = some (.box cs)) (hf : Frz H cs ds ms) (hsc : ds.all D.scalar = true) (h1 : Sub env env') (h2 : Sub H H')
    (hn : ((n :: ms).all fun m => (look m H').isNone) = true) (hN : (E.C.N.all fun n => (look n H').isSome) = true) (h : TC E c Q ⟨(t, .d (.ref ds off)) :: env', H', gl⟩) : TC E c Q ⟨env, H, gl⟩ := fun a w ⟨β, hB⟩ => by
  have hB' := hB.weak (S' := ⟨env', H', gl⟩) (fun t v h => h1.look h) (fun n ob h => h2.look h) (fun _ _ h => h) (fun n hn => List.all_eq_true.1 hN n hn)
  have hne : ∀ m, m ∈ n :: ms → look m H' = none := fun m hm => by simpa using List.all_eq_true.1 hn m hm
  have hk : Keeps w (Mut E.C.M0 β H) w (Mut E.C.M0 β H') := Keeps.weak fun b o hm => by
    rcases hm with hm | ⟨m, ob, q1, q2, q3⟩
    · exact .inl hm
    · exact .inr ⟨m, ob, h2.look q1, q2, q3⟩
  have hfree : ∀ m ob b o, m ∈ n :: ms → look m H = some ob → hb (β m).v = some b → ¬ Mut E.C.M0 β H' b o := fun m ob b o hm hlm hbm hmut => by
    rcases hmut with q | ⟨m2, ob2, q1, q2, q3⟩
    · exact hB.out m ob b o hlm (.inl hbm) q
    · have : m ≠ m2 := by rintro rfl; rw [hne m hm] at q1; cases q1
      exact hB.apart m m2 b ob ob2 this hlm (h2.look q1) (.inl hbm) q2
  refine h a w ⟨β, { hB' with env := fun s v hs => ?_ }⟩
  dsimp only at hs
  rw [look_cons] at hs
  split at hs
  · rename_i e
    subst e
    cases hs
    obtain ⟨x, q1, b, q2, rfl⟩ := hB.env t _ hl
    obtain ⟨b2, vs, ty, q3, q4, q5⟩ := hB.obs n _ hb'
    rw [q2] at q3
    cases q3
    refine ⟨_, q1, b, 0, vs, by rw [Nat.zero_add], ?_, fun j y hj => ⟨b, 0, rfl, ?_, ?_⟩⟩
    · have : ∀ (cs : List V) (ds : List D) (ms' : List Nat), Frz H cs ds ms' → ds.all D.scalar = true → (∀ m ∈ ms', m ∈ ms) → ∀ vs, RepL w (Mut E.C.M0 β H) β H cs vs → RepA w (Mut E.C.M0 β H') ds vs := fun cs ds ms' hf => by
        induction hf with
        | nil => intro _ _ vs h; exact h
        | cons hd _ ih =>
          intro hs hm vs hv
          obtain ⟨u, r, rfl, r1, r2⟩ := hv
          simp only [List.all_cons, Bool.and_eq_true] at hs
          have r3 := hd.rep hB r1
          exact ⟨u, r, rfl, r3.oneOf hs.1, RepD.keep hk _ _ r3, ih hs.2 hm r r2⟩
        | @map m ks us vs' xs ms2 hlm _ ih =>
          intro hs hm vs hv
          obtain ⟨u, r, rfl, ⟨rr, r1, r1'⟩, r2⟩ := hv
          simp only [List.all_cons, Bool.and_eq_true] at hs
          obtain ⟨r0, es, clock, r3, r4, r5, r6, _⟩ := hB.obs m _ hlm
          rw [r1] at r3
          cases r3
          subst r1'
          exact ⟨_, r, rfl, rfl, ⟨rr, es, clock, rfl, r4, fun o => hfree m _ rr o (List.mem_cons_of_mem _ (hm m List.mem_cons_self)) hlm (by rw [r1]; rfl), RepB.keep hk _ _ r5, RepB.keep hk _ _ r6⟩, ih hs.2 (fun m' h' => hm m' (List.mem_cons_of_mem _ h')) r r2⟩
      exact this cs ds ms hf hsc (fun m h => h) vs q5
    · exact hfree n _ b _ List.mem_cons_self hb' (by rw [q2]; rfl)
    · rw [Nat.zero_add]
      exact box_cell q4 hj
  · exact hB'.env s v hs
theorem mod_last {α : Type} (f : α → α) (x : α) : ∀ l : List α, (l ++ [x]).modify l.length f = l ++ [f x]
  | [] => rfl
  | y :: l => by simp [mod_last f x l]
theorem RepB.split {w : World} {M : Nat → Nat → Prop} : ∀ {xs ys : List D} {us : List Value}, RepB w M (xs ++ ys) us → ∃ u1 u2, us = u1 ++ u2 ∧ RepB w M xs u1 ∧ RepB w M ys u2
  | [], _, us, h => ⟨[], us, rfl, rfl, h⟩
  | x :: xs, ys, _, h => by
    obtain ⟨v, r, rfl, h1, h2⟩ := h
    obtain ⟨u1, u2, rfl, h3, h4⟩ := RepB.split h2
    exact ⟨v :: u1, u2, rfl, ⟨v, u1, rfl, h1, h3⟩, h4⟩
inductive BuildV (P : Program) (S : Sd) (t : Nat) : List V → List (Nat × Operand) → List V → Prop
  | nil (zs : List V) : BuildV P S t zs [] zs
  | cons {zs zs' ds cs : List V} {f off ft m : Nat} {x : Operand} {v : V} {ps : List (Nat × Operand)} [hf : TField P t f off ft] [hs : TSize P ft m] (hx : S.ev x = some v) (ho : okOp x = true) (hw : ownOk S v = true) (hc : CellsV v cs) (hm : cs.length = m) (hr : Repl zs off cs zs') (h : BuildV P S t zs' ps ds) :
    BuildV P S t zs ((f, x) :: ps) ds
theorem RepL.cut {w : World} {M : Nat → Nat → Prop} {β : Nat → Hd} {H : List (Nat × Ob)} : ∀ (k : Nat) {l : List V} {m : List Value}, RepL w M β H l m → RepL w M β H (l.take k) (m.take k) ∧ RepL w M β H (l.drop k) (m.drop k)
  | 0, _, _, h => ⟨by simp [RepL], h⟩
  | k + 1, [], _, h => by simp only [RepL] at h; subst h; exact ⟨by simp [RepL], by simp [RepL]⟩
  | k + 1, y :: l, _, h => by
    obtain ⟨v, r, rfl, h5, h6⟩ := h
    obtain ⟨q1, q2⟩ := RepL.cut k h6
    exact ⟨⟨v, _, rfl, h5, q1⟩, q2⟩
theorem BuildV.rep {P : Program} {C : Ctx} {β : Nat → Hd} {S : Sd} {a : Act} {w : World} (h : StB C β S a w) {t : Nat} {fs : Array Field} (hu : P.underlying t = some (.struct fs)) {places : Array (Nat × Nat)} (hp : ∀ (f : Nat) (fd : Field) i, fs[f]? = some fd → P.info? fd.type = some i → places[f]? = some (fd.offset, i.size))
    {zs ds : List V} {ps : List (Nat × Operand)} (hb : BuildV P S t zs ps ds) : ∀ {us : List Value}, RepL w (Mut C.M0 β S.H) β S.H zs us → (∀ u ∈ us, u.oneCell' = true) →
    ∃ vs : List Value, Instr.fill (places[·]?) us.toArray (ps.map fun x => (x.1, a.eval x.2)) = some vs.toArray ∧ RepL w (Mut C.M0 β S.H) β S.H ds vs ∧ ∀ u ∈ vs, u.oneCell' = true := by
  induction hb with
  | nil zs => intro us hr h1; exact ⟨us, rfl, hr, h1⟩
  | @cons zs zs' ds cs f off ft m x v ps hf hs hx ho hw hc hm hr hb ih =>
    intro us hrep hone
    obtain ⟨fs', fd, i, hu', h1, h2, h3, h4, _⟩ := field_parts hf
    rw [hu] at hu'
    cases hu'
    have hi : i.size = m := by have := hs.ok; rw [h4] at this; simpa using this
    have hpl := hp f fd i h1 (by rw [h3]; exact h4)
    obtain ⟨hcs, hco⟩ := hc.rep h (h.ev hx ho) (ownOk_spec hw)
    have hlen := hcs.length
    obtain ⟨h5, h6⟩ := hr.eq
    have hul := hrep.length
    have hsz : (a.eval x).cells.size = m := by simp at hlen; omega
    have hnew : RepL w (Mut C.M0 β S.H) β S.H zs' (us.take off ++ (a.eval x).cells.toList ++ us.drop (off + (a.eval x).cells.toList.length)) := by
      rw [h5, ← hlen]
      exact RepL.app (RepL.app (RepL.cut off hrep).1 hcs) (RepL.cut _ hrep).2
    obtain ⟨vs, h7, h8⟩ := ih hnew (fun u hu => by
      rcases List.mem_append.1 hu with hu | hu
      · rcases List.mem_append.1 hu with hu | hu
        · exact hone u (List.mem_of_mem_take hu)
        · exact hco u hu
      · exact hone u (List.mem_of_mem_drop hu))
    refine ⟨vs, ?_, h8⟩
    simp only [List.map_cons, Instr.fill, hpl]
    rw [if_neg (by
      simp only [ne_eq, Bool.or_eq_true, decide_eq_true_eq, not_or, Decidable.not_not, List.size_toArray]
      simp at hlen
      omega)]
    have hfo := foldl_repl fd.offset (a.eval x).cells.toList us.toArray (by simp at hlen ⊢; omega)
    rw [Array.toArray_toList] at hfo
    simp only [List.toList_toArray] at hfo
    rw [hfo, h2]
    exact h7
theorem zeroRep_one : ∀ {us : List Value} {vs : List V}, zeroRep us vs = true → ∀ u ∈ us, u.oneCell' = true
  | [], _, _, u, hu => by cases hu
  | x :: us, [], h, _, _ => by cases h
  | x :: us, v :: vs, h, u, hu => by
    simp only [zeroRep, Bool.and_eq_true] at h
    rcases List.mem_cons.1 hu with rfl | hu
    · have := h.1
      unfold zeroCell at this
      split at this <;> first | rfl | cases this
    · exact zeroRep_one h.2 u hu
theorem q_buildV {S : Sd} {t : Nat} {ps : List (Nat × Operand)} {vs ds : List V} [ht : TStruct E.P t] [hz : TZero E.P t vs] (hb : BuildV E.P S t vs ps ds) : Swift E S ⟨dst, .build t ps.toArray, ty, pos, af, gd⟩ (.agg ds) := Swift.mk fun β a w h => by
  obtain ⟨fs, hu, hfs⟩ := struct_parts ht
  obtain ⟨i, z, hi, hiz, h1, _⟩ := zero_parts hz
  obtain ⟨pl, h2, h3⟩ := run_places (P := E.P) fs.toList hfs
  obtain ⟨us, h4, h5, h6⟩ := hb.rep h hu (places := pl.toArray) (fun f fd i hf hi => by simpa using h3 f fd i (by simpa using hf) hi) (zeroRep_rep h1) (zeroRep_one h1)
  refine ⟨.agg us.toArray, fun w' _ => ?_, us, rfl, h6, h5⟩
  have hpl : (fs.mapM fun f => do pure (f.offset, ← sizeOf f.type) : Sem (Array (Nat × Nat))).run E.P w' = .ok pl.toArray w' := by
    rw [Array.mapM_eq_mapM_toList]
    simp only [Sem.run_map]
    refine (congrArg (fun r : Result (List (Nat × Nat)) => r.andThen fun a w' => Result.ok a.toArray w') (h2 w')).trans ?_
    rfl
  rw [Array.toArray_toList] at h4
  simp only [execOp, Sem.run_bind, Instr.build, zeroValue, typeInfo, hi, hiz, run_underlying hu, Sem.run_pure, Result.andThen_ok, program, Sem.run]
  simp only [hpl, Result.andThen_ok]
  have e : (ps.toArray.map fun x => (x.1, a.eval x.2)).toList = ps.map fun x => (x.1, a.eval x.2) := by simp
  rw [e, h4]
  rfl
def unk : V := .own 999999999 0
theorem unk_rep {w : World} {M : Nat → Nat → Prop} {β : Nat → Hd} {H : List (Nat × Ob)} (h : look 999999999 H = none) (v : Value) : RepV w M β H unk v := fun e sz sh xs hl => by rw [h] at hl; cases hl
theorem wanted_none {o : Oper} (h : o.guard = none) (y : Nat → Option Bool) : Region.wanted o y = true := by simp [Region.wanted, h]
theorem run_entryStore {P : Program} {w : World} {r c1 i : Nat} {es : Array MapEntry} (t : TypeId) (hw : w.heap[r]? = some (.map es c1)) (s : Int) (val : Value) (hfi : es.findIdx? (fun e => (e.born : Int) == s) = some i) :
    (Instr.entryStore t (.map (some r)) (.int .i64 s) val).run P w = .ok () (w.putObj r (.map (es.modify i fun e => { e with val := val }) c1)) := by
  simp [Instr.entryStore, run_getMap hw, asInt, asIntOf, hfi, run_setMap _ hw]
end
end
end Go.Proofs.YtjhbglklcddekaaGreatDoor
