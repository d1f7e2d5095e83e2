/- Parts: D22, D23, D24. -/
import Derived.Test.YtjhbglklcddekaaGreatDoorV9
set_option linter.all false
set_option maxRecDepth 100000
set_option maxHeartbeats 16000000
namespace Go.Proofs.YtjhbglklcddekaaGreatDoor
open Go.RowKit
section
theorem StB.moved {C : Ctx} {β : Nat → Hd} {S : Sd} {a : Act} {w w' : World} (h : StB C β S a w) {n e sz k : Nat} {sh : Bool} {xs zs : List D} (hl : look n S.H = some (.row e sz sh xs k)) {v' : Value} {news : List Value}
    (hown : w'.ownsRow 0 e sz v' zs.length news) (hz : RepE w (Mut C.M0 β S.H) sz zs news) (hnew : ∀ b, v'.ownBlock = some b → w.heap.size ≤ b) (hg : w.grownBy w' none) (k' : Nat) (hk : max (topE S.env) (topO S.H) ≤ k') (hN : C.N.contains n = false) :
    StB C (upd β n v') { S with H := (n, .row e sz true zs k') :: S.H } a w' := by
  have hbn := hb_row hown
  have hsl0 : ∃ a n' c, (β n).v = .slice a n' c := by
    obtain ⟨ys, h1, _⟩ := h.obs n _ hl
    obtain ⟨a, c, e, _⟩ := owns_shape h1
    exact ⟨a, _, c, e⟩
  have hH : ∀ m, m ≠ n → look m ((n, Ob.row e sz true zs k') :: S.H) = look m S.H := fun m hm => by rw [look_set, if_neg (Ne.symm hm)]
  have hq : ∀ e' sz' sh' xs' k'', look n ((n, Ob.row e sz true zs k') :: S.H) = some (.row e' sz' sh' xs' k'') → max (topE S.env) (topO S.H) ≤ k'' := fun e' sz' sh' xs' k'' h1 => by
    rw [look_set, if_pos rfl] at h1
    cases h1
    exact hk
  refine h.turn hl (fun m hm => upd_other β n v' hm) hg.os hg.tape hg.output hg.size (fun q hq _ => hg.block q hq (by simp)) (fun b hb' => ?_) (fun b o y hb' hm hc => ?_) (fun b o h1 h2 h3 => ?_)
    (fun kp t x v hx hv => RepV.bump kp (fun m hm => upd_other β n v' hm) hsl0 hH hq x v (by have := topE_look hx; omega) hv)
    (fun hm => absurd hm (by simpa using hN))
    (fun kp m cs vs _ hm hv => RepL.bump kp (fun m hm => upd_other β n v' hm) hsl0 hH hq _ vs (by have := topO_look hm; omega) hv) (fun kp => ?_)
  · rw [upd_v, hbn] at hb'
    exact .inr (hnew b hb')
  · rw [← hc]
    exact World.cell?_of_block (hg.block b (h.old hl (.inl hb')) (by simp))
  · rw [upd_v, hbn] at h2
    have := hnew b h2
    have := h.old hl (.inl h1)
    omega
  · rw [upd_same]
    exact ⟨news, hown, RepE.keep kp _ _ _ hz⟩
section
variable {E : Set} {Q : Exit → Sd → Prop} {ops : Array Oper} {draw : Bool} {rest : Todo} {way : Way3} {ty : TypeId} {pos : String} {af : Array Edge} {gd : Option (Nat × Bool)} {dst : Option Tmp}
variable {env : List (Nat × V)} {H : List (Nat × Ob)} {gl : List (Nat × List D)} {d : Nat}
theorem s_append_suf {t e sz n k p : Nat} {s x : Operand} {v : V} {xs ys : List D} [ht : TSlice E.P t e sz] (hs : Sd.ev ⟨env, H, gl⟩ s = some (.suf n k p)) (hos : okOp s = true) (hl : look n H = some (.row e sz true xs k)) (hx : Sd.ev ⟨env, H, gl⟩ x = some v) (hox : okOp x = true) (hy : ToD H v (.list sz ys))
    (hpos : 0 < ys.length) (hlen : xs.length + ys.length ≤ 100000000000) (hN : E.C.N.contains n = false) (hd : d < E.C.nt) (hg : Sd.gd ⟨env, H, gl⟩ ops ⟨some d, .call { callee := .builtin .append, args := #[s, x], argTypes := #[t, t] }, ty, pos, af, gd⟩ = some true) (hw : isBar draw way = true)
    (h : ∀ xs' p' k', xs'.drop p' = xs.drop p ++ ys → p' ≤ xs'.length → xs'.length ≤ xs.length + ys.length → TR E draw ops Q rest ⟨(d, .suf n k' p') :: env, (n, .row e sz true xs' k') :: H, gl⟩) :
    TR E draw ops Q (.step ⟨some d, .call { callee := .builtin .append, args := #[s, x], argTypes := #[t, t] }, ty, pos, af, gd⟩ way rest) ⟨env, H, gl⟩ := by
  have key : ∀ β a w, StB E.C β ⟨env, H, gl⟩ a w → ∃ r w' β' xs' p' k', (execOp a.eval ⟨some d, .call { callee := .builtin .append, args := #[s, x], argTypes := #[t, t] }, ty, pos, af, gd⟩).run E.P w = .ok (.value r) w' ∧ xs'.drop p' = xs.drop p ++ ys ∧ p' ≤ xs'.length ∧ xs'.length ≤ xs.length + ys.length ∧
      StB E.C β' ⟨env, (n, .row e sz true xs' k') :: H, gl⟩ a w' ∧ RepV w' (Mut E.C.M0 β' ((n, .row e sz true xs' k') :: H)) β' ((n, .row e sz true xs' k') :: H) (.suf n k' p') r := fun β a w hB => by
    obtain ⟨bytes, he, hby⟩ := slice_elem ht
    have he' := he
    obtain ⟨i, z, hu, hi, hz, hsize, hbytes, hzs, hps⟩ := he'
    obtain ⟨ad, ll, c, ad1, h1, h2, h3, h4, hnn⟩ := hB.ev hs hos e sz true xs hl
    obtain ⟨olds, h5, h6⟩ := hB.obs n _ hl
    obtain ⟨xa, xc, news, q1, q2, q4, q3, q5, q6⟩ := hy.rep hB (hB.ev hx hox)
    have hnl : news.length = ys.length * sz := q5.length
    obtain ⟨bx, ox, hxa⟩ : ∃ b o, xa = some ⟨b, o, none⟩ := by
      have : 0 < news.length := by rw [hnl]; exact Nat.mul_pos hpos hps
      obtain ⟨b, o, e1, _, _⟩ := q6 0 news[0] (by simp [this])
      exact ⟨b, o, e1⟩
    subst hxa
    have hrd : ∀ j u, news[j]? = some u → w.cell? ((⟨bx, ox, none⟩ : Addr).add j) = some u := fun j u hj => by
      obtain ⟨b, o, e1, _, e2⟩ := q6 j u hj
      cases e1
      rw [add_flat]
      exact e2
    have hmul : ∀ m, m ≤ 100000000000 → m * bytes ≤ 140737488355328 := fun m hm => Nat.le_trans (Nat.mul_le_mul hm hby) (by omega)
    rcases h5.2 with ⟨r1, r2⟩ | ⟨g, cap, cur, r1, _, r2, r3, r4, r5, r6⟩
    · -- the row is nil
      have hx0 : xs = [] := List.eq_nil_of_length_eq_zero r2
      subst hx0
      rw [h1] at r1
      simp only [Value.slice.injEq] at r1
      obtain ⟨rfl, rfl, rfl⟩ := r1
      have hp0 : p = 0 := by omega
      subst hp0
      have ho0 : olds = [] := List.eq_nil_of_length_eq_zero (by rw [h5.1]; simp)
      subst ho0
      obtain ⟨v', w', k1, k2, k3⟩ := run_app (P := E.P) (ty := ty) w he h5 (xa := some ⟨bx, ox, none⟩) (m := ys.length) (xc := xc) (news := news) hnl (fun j u hj => by obtain ⟨b, o, e1, _, e2⟩ := q6 j u hj; exact ⟨b, o, e1, e2⟩) q3 q2 q5.one (by simp at hlen ⊢; omega) hby
      have hap := hB.append hl h5 h6 q5 k2 k3 _ (Nat.le_refl _) hN
      have hs0 : a.eval s = (β n).v := by rw [h3, h1, hnn.2 rfl]
      refine ⟨v', w', _, [] ++ ys, 0, _, run_append_op (by rw [hs0, q1]; exact k1), by simp, Nat.zero_le _, by simp, hap, fun e1 sz1 sh1 xs1 hl1 => ?_⟩
      rw [look_set, if_pos rfl] at hl1
      cases hl1
      obtain ⟨a9, c9, e9, _⟩ := owns_shape k2
      have ha9 : ∀ q, a9 = some q → ∃ b, q = ⟨b, 0, none⟩ := fun q hq => by
        rcases k2.2 with ⟨f1, _⟩ | ⟨g9, cap9, cur9, f1, _⟩
        · rw [e9] at f1; simp only [Value.slice.injEq] at f1; rw [f1.1] at hq; cases hq
        · rw [e9] at f1
          simp only [Value.slice.injEq] at f1
          rw [f1.1] at hq
          cases hq
          exact ⟨_, rfl⟩
      refine ⟨a9, _, c9, a9, by rw [upd_v]; exact e9, Nat.zero_le _, by rw [e9]; rfl, fun _ => ?_, Iff.rfl⟩
      cases a9 with
      | none => rfl
      | some q =>
        obtain ⟨b, rfl⟩ := ha9 q rfl
        simp [add_flat]
    · rw [h1] at r1
      simp only [Value.slice.injEq] at r1
      obtain ⟨rfl, rfl, rfl⟩ := r1
      obtain ⟨b1, rfl⟩ : ∃ b1, ad1 = some b1 := by
        cases ad1 with
        | none => have := hnn.1 rfl; cases this
        | some b1 => exact ⟨b1, rfl⟩
      by_cases hroom : xs.length + ys.length ≤ c
      · -- in the row's own block
        have hne : c ≠ p := by omega
        have hb1 : b1 = ⟨g, p * sz, none⟩ := by have := h4 hne; simpa [add_flat] using this
        subst hb1
        obtain ⟨w', k1, k2, k3⟩ := run_append_fits (P := E.P) w 0 t ty e i sz hu hi hsize g xs.length c olds (by rw [← h1]; exact h5) ⟨bx, ox, none⟩ ys.length xc news hnl hrd q5.one hroom
        have hcell : ∀ j, j < news.length → (w.cell? ⟨g, xs.length * sz + j, none⟩).isSome = true := fun j hj => by
          have : xs.length * sz + j < cur.size := by
            rw [r5]
            rw [hnl] at hj
            have : (xs.length + ys.length) * sz ≤ c * sz := Nat.mul_le_mul_right _ hroom
            rw [Nat.add_mul] at this
            omega
          simp [World.cell?, r2, this]
        have hfz : ∀ j, j < news.length → w.frozen? ⟨g, xs.length * sz + j, none⟩ = false := fun j hj => by simp [World.frozen?, r2]
        have k4 := run_append_room_cells (P := E.P) w t ty e i hu hi g 0 xs.length c ⟨bx, ox, none⟩ ys.length xc news (by rw [hsize]; exact hnl) hrd q5.one hroom (by rw [hsize]; intro j hj; rw [Nat.zero_add]; exact hcell j hj) (by rw [hsize]; intro j hj; rw [Nat.zero_add]; exact hfz j hj)
        have e0 : p * sz + (xs.length - p) * sz = xs.length * sz := by rw [← Nat.add_mul]; congr 1; omega
        have k5 := run_append_room_cells (P := E.P) w t ty e i hu hi g (p * sz) (xs.length - p) (c - p) ⟨bx, ox, none⟩ ys.length xc news (by rw [hsize]; exact hnl) hrd q5.one (by omega) (by rw [hsize, e0]; exact hcell) (by rw [hsize, e0]; exact hfz)
        rw [k1] at k4
        simp only [Result.ok.injEq, hsize, Nat.zero_add] at k4
        rw [hsize, e0, ← k4.2] at k5
        have hap := hB.append hl h5 h6 q5 k2 (.inl ⟨by rw [h1]; rfl, by rw [h1]; exact k3⟩) _ (Nat.le_refl _) hN
        refine ⟨_, w', _, xs ++ ys, p, _, run_append_op (by rw [h3, q1]; exact k5), by rw [List.drop_append_of_le_length h2], by simp; omega, by simp, hap, fun e1 sz1 sh1 xs1 hl1 => ?_⟩
        rw [look_set, if_pos rfl] at hl1
        cases hl1
        refine ⟨some ⟨g, 0, none⟩, _, c, some ⟨g, p * sz, none⟩, by rw [upd_v], by omega, ?_, fun _ => by simp [add_flat], by simp⟩
        congr 1
        omega
      · -- in a new one
        have hod : (olds.drop (p * sz)).length = (xs.length - p) * sz := by rw [List.length_drop, h5.1, Nat.sub_mul]
        have hold : ∀ j u, (olds.drop (p * sz))[j]? = some u → w.cell? (b1.add j) = some u := fun j u hj => by
          have hjl : j < (olds.drop (p * sz)).length := (List.getElem?_eq_some_iff.1 hj).1
          have hne : c ≠ p := by
            rintro rfl
            have : xs.length - c = 0 := by omega
            rw [hod, this] at hjl
            omega
          have hb1 : b1 = ⟨g, p * sz, none⟩ := by have := h4 hne; simpa [add_flat] using this
          subst hb1
          rw [List.getElem?_drop] at hj
          have := h5.cells (g := g) (by rw [h1]; rfl) _ u hj
          rw [add_flat, Nat.zero_add] at this
          rw [add_flat]
          exact this
        obtain ⟨v', w', k1, k2, k3⟩ := run_append_arg_grows (P := E.P) w t ty e i z sz bytes hu hi hz hsize hbytes hzs hps b1 (xs.length - p) (c - p) (olds.drop (p * sz)) hod hold ⟨bx, ox, none⟩ ys.length xc news hnl hrd (by omega) (by unfold maxLen; omega) (hmul _ (by omega))
        have hz' : RepE w (Mut E.C.M0 β H) sz (xs.drop p ++ ys) (olds.drop (p * sz) ++ news) := (RepE.drop p h6 h2).append q5
        have hlen' : (xs.drop p ++ ys).length = xs.length - p + ys.length := by simp
        have hmv := hB.moved hl (owns_mono (by rw [hlen']; exact k2) (Nat.zero_le _)) hz' (fun b hb' => (k2.lt b hb').1) k3 _ (Nat.le_refl _) hN
        refine ⟨v', w', _, xs.drop p ++ ys, 0, _, run_append_op (by rw [h3, q1]; exact k1), by simp, Nat.zero_le _, by simp, hmv, fun e1 sz1 sh1 xs1 hl1 => ?_⟩
        rw [look_set, if_pos rfl] at hl1
        cases hl1
        obtain ⟨a9, c9, e9, _⟩ := owns_shape k2
        have ha9 : ∀ q, a9 = some q → ∃ b, q = ⟨b, 0, none⟩ := fun q hq => by
          rcases k2.2 with ⟨f1, _⟩ | ⟨g9, cap9, cur9, f1, _⟩
          · rw [e9] at f1; simp only [Value.slice.injEq] at f1; rw [f1.1] at hq; cases hq
          · rw [e9] at f1
            simp only [Value.slice.injEq] at f1
            rw [f1.1] at hq
            cases hq
            exact ⟨_, rfl⟩
        refine ⟨a9, _, c9, a9, by rw [upd_v]; exact e9, Nat.zero_le _, by rw [e9]; rfl, fun _ => ?_, Iff.rfl⟩
        cases a9 with
        | none => rfl
        | some q =>
          obtain ⟨b, rfl⟩ := ha9 q rfl
          simp [add_flat]
  intro a w hS
  have hS0 := hS
  have key2 : ∀ w1, Grows w w1 → ∀ K : Act → World → Prop, (∀ xs' p' k' a2 w2, xs'.drop p' = xs.drop p ++ ys → p' ≤ xs'.length → xs'.length ≤ xs.length + ys.length → St E.C ⟨(d, .suf n k' p') :: env, (n, .row e sz true xs' k') :: H, gl⟩ a2 w2 → K a2 w2) → Oper.wp E.P ⟨some d, .call { callee := .builtin .append, args := #[s, x], argTypes := #[t, t] }, ty, pos, af, gd⟩ a w1 K (Qof E.C Q) := fun w1 g K hK => by
    obtain ⟨β, hB⟩ := hS.later g
    obtain ⟨r, w', β', xs', p', k', h1, h2, h3, h4, h5, h6⟩ := key β a w1 hB
    exact wp_value h1 (hK xs' p' k' _ _ h2 h3 h4 ⟨β', h5.put hd h6⟩)
  cases draw with
  | true =>
    dsimp only
    cases way with
    | pure => cases hw
    | quiet => cases hw
    | grow => cases hw
    | bar =>
      simp only [wpMix3]
      intro n
      rw [Sd.gd_sound hS0 hg, if_pos rfl]
      exact key2 n.w n.grows _ fun xs' p' k' a2 w2 q1 q2 q3 hs2 => h xs' p' k' q1 q2 q3 _ _ hs2
  | false => exact listIn_of_wp hS0 hg rfl fun K hK => key2 w (Grows.refl w) K fun xs' p' k' a2 w2 q1 q2 q3 hs2 => hK _ _ (h xs' p' k' q1 q2 q3 _ _ hs2)
end
end
section
section
variable {E : Set} {Q : Exit → Sd → Prop} {ops : Array Oper} {draw : Bool} {rest : Todo} {way : Way3} {ty : TypeId} {pos : String} {af : Array Edge} {gd : Option (Nat × Bool)} {dst : Option Tmp}
variable {env : List (Nat × V)} {H : List (Nat × Ob)} {gl : List (Nat × List D)} {d : Nat}
theorem tc_share {c : Code} (n : Nat) {e sz k : Nat} {sh : Bool} {xs : List D} (hn : look n H = some (.row e sz sh xs k)) (h : TC E c Q ⟨env, (n, .row e sz true xs k) :: H, gl⟩) : TC E c Q ⟨env, H, gl⟩ := fun a w ⟨β, hB⟩ => h a w ⟨β, hB.share hn⟩
inductive Frz (H : List (Nat × Ob)) : List V → List D → List Nat → Prop
  | nil : Frz H [] [] []
  | cons {v : V} {x : D} {vs : List V} {xs : List D} {ms : List Nat} (h : ToD H v x) (t : Frz H vs xs ms) : Frz H (v :: vs) (x :: xs) ms
  | map {m : Nat} {ks us : List D} {vs : List V} {xs : List D} {ms : List Nat} (h : look m H = some (.map ks us)) (t : Frz H vs xs ms) : Frz H (.map m :: vs) (.map ks us :: xs) (m :: ms)
theorem tc_freeze {c : Code} {t n off : Nat} {cs : List V} {ds : List D} {ms : List Nat} {env' : List (Nat × V)} {H' : List (Nat × Ob)} (hl : look t env = some (.ptr n off)) (hb' : look n H = some (.box cs)) (hf : Frz H cs ds ms) (hsc : ds.all D.scalar = true) (h1 : Sub env env') (h2 : Sub H H')
    (hn : ((n :: ms).all fun m => (look m H').isNone) = true) (hN : (E.C.N.all fun n => (look n H').isSome) = true) (h : TC E c Q ⟨(t, .d (.ref ds off)) :: env', H', gl⟩) : TC E c Q ⟨env, H, gl⟩ := fun a w ⟨β, hB⟩ => by
  have hB' := hB.weak (S' := ⟨env', H', gl⟩) (fun t v h => h1.look h) (fun n ob h => h2.look h) (fun _ _ h => h) (fun n hn => List.all_eq_true.1 hN n hn)
  have hne : ∀ m, m ∈ n :: ms → look m H' = none := fun m hm => by simpa using List.all_eq_true.1 hn m hm
  have hk : Keeps w (Mut E.C.M0 β H) w (Mut E.C.M0 β H') := Keeps.weak fun b o hm => by
    rcases hm with hm | ⟨m, ob, q1, q2, q3⟩
    · exact .inl hm
    · exact .inr ⟨m, ob, h2.look q1, q2, q3⟩
  have hfree : ∀ m ob b o, m ∈ n :: ms → look m H = some ob → hb (β m).v = some b → ¬ Mut E.C.M0 β H' b o := fun m ob b o hm hlm hbm hmut => by
    rcases hmut with q | ⟨m2, ob2, q1, q2, q3⟩
    · exact hB.out m ob b o hlm (.inl hbm) q
    · have : m ≠ m2 := by rintro rfl; rw [hne m hm] at q1; cases q1
      exact hB.apart m m2 b ob ob2 this hlm (h2.look q1) (.inl hbm) q2
  refine h a w ⟨β, { hB' with env := fun s v hs => ?_ }⟩
  dsimp only at hs
  rw [look_cons] at hs
  split at hs
  · rename_i e
    subst e
    cases hs
    obtain ⟨x, q1, b, q2, rfl⟩ := hB.env t _ hl
    obtain ⟨b2, vs, ty, q3, q4, q5⟩ := hB.obs n _ hb'
    rw [q2] at q3
    cases q3
    refine ⟨_, q1, b, 0, vs, by rw [Nat.zero_add], ?_, fun j y hj => ⟨b, 0, rfl, ?_, ?_⟩⟩
    · have : ∀ (cs : List V) (ds : List D) (ms' : List Nat), Frz H cs ds ms' → ds.all D.scalar = true → (∀ m ∈ ms', m ∈ ms) → ∀ vs, RepL w (Mut E.C.M0 β H) β H cs vs → RepA w (Mut E.C.M0 β H') ds vs := fun cs ds ms' hf => by
        induction hf with
        | nil => intro _ _ vs h; exact h
        | cons hd _ ih =>
          intro hs hm vs hv
          obtain ⟨u, r, rfl, r1, r2⟩ := hv
          simp only [List.all_cons, Bool.and_eq_true] at hs
          have r3 := hd.rep hB r1
          exact ⟨u, r, rfl, r3.oneOf hs.1, RepD.keep hk _ _ r3, ih hs.2 hm r r2⟩
        | @map m ks us vs' xs ms2 hlm _ ih =>
          intro hs hm vs hv
          obtain ⟨u, r, rfl, ⟨rr, r1, r1'⟩, r2⟩ := hv
          simp only [List.all_cons, Bool.and_eq_true] at hs
          obtain ⟨r0, es, clock, r3, r4, r5, r6, _⟩ := hB.obs m _ hlm
          rw [r1] at r3
          cases r3
          subst r1'
          exact ⟨_, r, rfl, rfl, ⟨rr, es, clock, rfl, r4, fun o => hfree m _ rr o (List.mem_cons_of_mem _ (hm m List.mem_cons_self)) hlm (by rw [r1]; rfl), RepB.keep hk _ _ r5, RepB.keep hk _ _ r6⟩, ih hs.2 (fun m' h' => hm m' (List.mem_cons_of_mem _ h')) r r2⟩
      exact this cs ds ms hf hsc (fun m h => h) vs q5
    · exact hfree n _ b _ List.mem_cons_self hb' (by rw [q2]; rfl)
    · rw [Nat.zero_add]
      exact box_cell q4 hj
  · exact hB'.env s v hs
theorem mod_last {α : Type} (f : α → α) (x : α) : ∀ l : List α, (l ++ [x]).modify l.length f = l ++ [f x]
  | [] => rfl
  | y :: l => by simp [mod_last f x l]
theorem RepB.split {w : World} {M : Nat → Nat → Prop} : ∀ {xs ys : List D} {us : List Value}, RepB w M (xs ++ ys) us → ∃ u1 u2, us = u1 ++ u2 ∧ RepB w M xs u1 ∧ RepB w M ys u2
  | [], _, us, h => ⟨[], us, rfl, rfl, h⟩
  | x :: xs, ys, _, h => by
    obtain ⟨v, r, rfl, h1, h2⟩ := h
    obtain ⟨u1, u2, rfl, h3, h4⟩ := RepB.split h2
    exact ⟨v :: u1, u2, rfl, ⟨v, u1, rfl, h1, h3⟩, h4⟩
inductive BuildV (P : Program) (S : Sd) (t : Nat) : List V → List (Nat × Operand) → List V → Prop
  | nil (zs : List V) : BuildV P S t zs [] zs
  | cons {zs zs' ds cs : List V} {f off ft m : Nat} {x : Operand} {v : V} {ps : List (Nat × Operand)} [hf : TField P t f off ft] [hs : TSize P ft m] (hx : S.ev x = some v) (ho : okOp x = true) (hw : ownOk S v = true) (hc : CellsV v cs) (hm : cs.length = m) (hr : Repl zs off cs zs') (h : BuildV P S t zs' ps ds) :
    BuildV P S t zs ((f, x) :: ps) ds
theorem RepL.cut {w : World} {M : Nat → Nat → Prop} {β : Nat → Hd} {H : List (Nat × Ob)} : ∀ (k : Nat) {l : List V} {m : List Value}, RepL w M β H l m → RepL w M β H (l.take k) (m.take k) ∧ RepL w M β H (l.drop k) (m.drop k)
  | 0, _, _, h => ⟨by simp [RepL], h⟩
  | k + 1, [], _, h => by simp only [RepL] at h; subst h; exact ⟨by simp [RepL], by simp [RepL]⟩
  | k + 1, y :: l, _, h => by
    obtain ⟨v, r, rfl, h5, h6⟩ := h
    obtain ⟨q1, q2⟩ := RepL.cut k h6
    exact ⟨⟨v, _, rfl, h5, q1⟩, q2⟩
theorem BuildV.rep {P : Program} {C : Ctx} {β : Nat → Hd} {S : Sd} {a : Act} {w : World} (h : StB C β S a w) {t : Nat} {fs : Array Field} (hu : P.underlying t = some (.struct fs)) {places : Array (Nat × Nat)} (hp : ∀ (f : Nat) (fd : Field) i, fs[f]? = some fd → P.info? fd.type = some i → places[f]? = some (fd.offset, i.size))
    {zs ds : List V} {ps : List (Nat × Operand)} (hb : BuildV P S t zs ps ds) : ∀ {us : List Value}, RepL w (Mut C.M0 β S.H) β S.H zs us → (∀ u ∈ us, u.oneCell' = true) →
    ∃ vs : List Value, Instr.fill (places[·]?) us.toArray (ps.map fun x => (x.1, a.eval x.2)) = some vs.toArray ∧ RepL w (Mut C.M0 β S.H) β S.H ds vs ∧ ∀ u ∈ vs, u.oneCell' = true := by
  induction hb with
  | nil zs => intro us hr h1; exact ⟨us, rfl, hr, h1⟩
  | @cons zs zs' ds cs f off ft m x v ps hf hs hx ho hw hc hm hr hb ih =>
    intro us hrep hone
    obtain ⟨fs', fd, i, hu', h1, h2, h3, h4, _⟩ := field_parts hf
    rw [hu] at hu'
    cases hu'
    have hi : i.size = m := by have := hs.ok; rw [h4] at this; simpa using this
    have hpl := hp f fd i h1 (by rw [h3]; exact h4)
    obtain ⟨hcs, hco⟩ := hc.rep h (h.ev hx ho) (ownOk_spec hw)
    have hlen := hcs.length
    obtain ⟨h5, h6⟩ := hr.eq
    have hul := hrep.length
    have hsz : (a.eval x).cells.size = m := by simp at hlen; omega
    have hnew : RepL w (Mut C.M0 β S.H) β S.H zs' (us.take off ++ (a.eval x).cells.toList ++ us.drop (off + (a.eval x).cells.toList.length)) := by
      rw [h5, ← hlen]
      exact RepL.app (RepL.app (RepL.cut off hrep).1 hcs) (RepL.cut _ hrep).2
    obtain ⟨vs, h7, h8⟩ := ih hnew (fun u hu => by
      rcases List.mem_append.1 hu with hu | hu
      · rcases List.mem_append.1 hu with hu | hu
        · exact hone u (List.mem_of_mem_take hu)
        · exact hco u hu
      · exact hone u (List.mem_of_mem_drop hu))
    refine ⟨vs, ?_, h8⟩
    simp only [List.map_cons, Instr.fill, hpl]
    rw [if_neg (by
      simp only [ne_eq, Bool.or_eq_true, decide_eq_true_eq, not_or, Decidable.not_not, List.size_toArray]
      simp at hlen
      omega)]
    have hfo := foldl_repl fd.offset (a.eval x).cells.toList us.toArray (by simp at hlen ⊢; omega)
    rw [Array.toArray_toList] at hfo
    simp only [List.toList_toArray] at hfo
    rw [hfo, h2]
    exact h7
theorem zeroRep_one : ∀ {us : List Value} {vs : List V}, zeroRep us vs = true → ∀ u ∈ us, u.oneCell' = true
  | [], _, _, u, hu => by cases hu
  | x :: us, [], h, _, _ => by cases h
  | x :: us, v :: vs, h, u, hu => by
    simp only [zeroRep, Bool.and_eq_true] at h
    rcases List.mem_cons.1 hu with rfl | hu
    · have := h.1
      unfold zeroCell at this
      split at this <;> first | rfl | cases this
    · exact zeroRep_one h.2 u hu
theorem q_buildV {S : Sd} {t : Nat} {ps : List (Nat × Operand)} {vs ds : List V} [ht : TStruct E.P t] [hz : TZero E.P t vs] (hb : BuildV E.P S t vs ps ds) : Swift E S ⟨dst, .build t ps.toArray, ty, pos, af, gd⟩ (.agg ds) := Swift.mk fun β a w h => by
  obtain ⟨fs, hu, hfs⟩ := struct_parts ht
  obtain ⟨i, z, hi, hiz, h1, _⟩ := zero_parts hz
  obtain ⟨pl, h2, h3⟩ := run_places (P := E.P) fs.toList hfs
  obtain ⟨us, h4, h5, h6⟩ := hb.rep h hu (places := pl.toArray) (fun f fd i hf hi => by simpa using h3 f fd i (by simpa using hf) hi) (zeroRep_rep h1) (zeroRep_one h1)
  refine ⟨.agg us.toArray, fun w' _ => ?_, us, rfl, h6, h5⟩
  have hpl : (fs.mapM fun f => do pure (f.offset, ← sizeOf f.type) : Sem (Array (Nat × Nat))).run E.P w' = .ok pl.toArray w' := by
    rw [Array.mapM_eq_mapM_toList]
    simp only [Sem.run_map]
    refine (congrArg (fun r : Result (List (Nat × Nat)) => r.andThen fun a w' => Result.ok a.toArray w') (h2 w')).trans ?_
    rfl
  rw [Array.toArray_toList] at h4
  simp only [execOp, Sem.run_bind, Instr.build, zeroValue, typeInfo, hi, hiz, run_underlying hu, Sem.run_pure, Result.andThen_ok, program, Sem.run]
  simp only [hpl, Result.andThen_ok]
  have e : (ps.toArray.map fun x => (x.1, a.eval x.2)).toList = ps.map fun x => (x.1, a.eval x.2) := by simp
  rw [e, h4]
  rfl
def unk : V := .own 999999999 0
theorem unk_rep {w : World} {M : Nat → Nat → Prop} {β : Nat → Hd} {H : List (Nat × Ob)} (h : look 999999999 H = none) (v : Value) : RepV w M β H unk v := fun e sz sh xs hl => by rw [h] at hl; cases hl
theorem wanted_none {o : Oper} (h : o.guard = none) (y : Nat → Option Bool) : Region.wanted o y = true := by simp [Region.wanted, h]
theorem run_entryStore {P : Program} {w : World} {r c1 i : Nat} {es : Array MapEntry} (t : TypeId) (hw : w.heap[r]? = some (.map es c1)) (s : Int) (val : Value) (hfi : es.findIdx? (fun e => (e.born : Int) == s) = some i) :
    (Instr.entryStore t (.map (some r)) (.int .i64 s) val).run P w = .ok () (w.putObj r (.map (es.modify i fun e => { e with val := val }) c1)) := by
  simp [Instr.entryStore, run_getMap hw, asInt, asIntOf, hfi, run_setMap _ hw]
end
end
section
theorem nat_lit_eq {n : Nat} : (OfNat.ofNat n : Int) = ((OfNat.ofNat n : Nat) : Int) := rfl
section
variable {E : Set} {Q : Exit → Sd → Prop} {S : Sd} {ops : Array Oper} {draw : Bool} {rest : Todo} {way : Way3} {ty : TypeId} {pos : String} {af : Array Edge} {gd : Option (Nat × Bool)} {dst : Option Tmp} {o : Oper} {v : V}
variable {env : List (Nat × V)} {H : List (Nat × Ob)} {gl : List (Nat × List D)} {d : Nat} {k : IntKind} {p q r : Int} {xt yt : TypeId} {x y : Operand}
theorem z_p (hq : Swift E ⟨env, H, gl⟩ o v) (h : TR E draw ops Q rest ⟨(d, v) :: env, H, gl⟩) (hdst : o.dst = some d := by exact rfl) (hd : d < E.C.nt := by exact ltd rfl) (hg : Sd.gd ⟨env, H, gl⟩ ops o = some true := by exact rfl) (hdf : isDefer o = false := by exact rfl) : TR E draw ops Q (.step o way rest) ⟨env, H, gl⟩ := s_p hq hdst hd hg hdf h
theorem z_q (hq : Quiet E ⟨env, H, gl⟩ o v) (h : TR E draw ops Q rest ⟨(d, v) :: env, H, gl⟩) (hdst : o.dst = some d := by exact rfl) (hd : d < E.C.nt := by exact ltd rfl) (hg : Sd.gd ⟨env, H, gl⟩ ops o = some true := by exact rfl) (hdf : isDefer o = false := by exact rfl) (hw : way.known = false := by exact rfl) : TR E draw ops Q (.step o way rest) ⟨env, H, gl⟩ := s_q hq hdst hd hg hdf hw h
theorem w_move {x : Operand} {v : V} (hx : S.ev x = some v := by exact rfl) (ho : okOp x = true := by exact rfl) : Swift E S ⟨dst, .move x, ty, pos, af, gd⟩ v := q_move hx ho
theorem w_buildn {t : Nat} {ps : List (Nat × Operand)} {vs : List V} {zs ds : List D} [ht : TStruct E.P t] [hz : TZero E.P t vs] (hzd : ZeroD vs zs := by (repeat (first | exact ZeroD.nil | apply ZeroD.d | apply ZeroD.none)); fail_if_success intros) (hb : Build E.P S t zs ps ds := by (repeat (first | exact Build.nil _ | apply Build.cons rfl rfl (by first | exact ToD.d _ | exact ToD.nils _ | exact ToD.own rfl) (by first | exact CellsD.agg _ | constructor) (by rfl) (by (repeat (first | exact Repl.done _ | apply Repl.here | apply Repl.there)); fail_if_success intros))); fail_if_success intros) : Swift E S ⟨dst, .build t ps.toArray, ty, pos, af, gd⟩ (.d (.agg ds)) := q_build hzd hb
theorem w_load_boxs {t n off m : Nat} {x : Operand} {cs vs' : List V} {ds : List D} [ht : TAgg E.P t m] (hx : S.ev x = some (.ptr n off) := by exact rfl) (hl : look n S.H = some (.box cs) := by exact rfl) (hc : Cut cs off m vs' := by (repeat (first | exact Cut.done _ | apply Cut.take | apply Cut.skip)); fail_if_success intros) (hd : ToDs S.H vs' ds := by (repeat (first | exact ToDs.nil | apply ToDs.cons (ToD.d _) | apply ToDs.cons (ToD.nils _) | apply ToDs.cons (ToD.own rfl))); fail_if_success intros) (hn : ds.all D.scalar = true := by exact rfl) : Quiet E S ⟨dst, .load t x, ty, pos, af, gd⟩ (.d (.agg ds)) := q_load_boxs hx hl hc hd hn
theorem w_load_box {t : Nat} {x : Operand} {n off : Nat} {cs : List V} {v : V} [ht : TCell E.P t] (hx : S.ev x = some (.ptr n off) := by exact rfl) (hl : look n S.H = some (.box cs) := by exact rfl) (hc : cs[off]? = some v := by exact rfl) : Quiet E S ⟨dst, .load t x, ty, pos, af, gd⟩ v := q_load_box hx hl hc
theorem w_field_box {s f off' ft n off : Nat} {x : Operand} [ht : TField E.P s f off' ft] (hx : S.ev x = some (.ptr n off) := by exact rfl) : Swift E S ⟨dst, .fieldAddr s x f, ty, pos, af, gd⟩ (.ptr n (off + off')) := q_field_box hx
theorem w_nil_box {n off : Nat} {x : Operand} (hx : S.ev x = some (.ptr n off) := by exact rfl) : Swift E S ⟨dst, .nilCheck x, ty, pos, af, gd⟩ (.ptr n off) := q_nil_box hx
theorem w_slice_suf {t e sz n k p l e' : Nat} {sh : Bool} {xs : List D} {x lo : Operand} {li : IntKind} {lv : Int} [ht : TSlice E.P t e sz] (hx : S.ev x = some (.suf n k p) := by exact rfl) (hox : okOp x = true := by exact rfl) (hl : look n S.H = some (.row e' sz sh xs k) := by exact rfl) (hlo : S.ev lo = some (.d (.int li lv)) := by exact rfl) (hol : okOp lo = true := by exact rfl) (el : lv = (l : Nat) := by first | with_reducible exact nat_lit_eq | exact rfl | exact (Int.toNat_of_nonneg (by omega)).symm) (hlm : p + l ≤ xs.length := by first | omega | (simp only [List.length_cons, List.length_nil, List.length_append, List.length_map, List.length_take, List.length_drop]; omega)) : Swift E S ⟨dst, .slice t x (some lo) none none, ty, pos, af, gd⟩ (.suf n k (p + l)) := q_slice_suf hx hox hl hlo hol el hlm
theorem z_alloc {t : Nat} {vs : List V} [ht : TZero E.P t vs] (n : Nat) (h : TR E draw ops Q rest ⟨(d, .ptr n 0) :: env, (n, .box vs) :: H, gl⟩) (hn : Sd.fresh ⟨env, H, gl⟩ n = true := by exact rfl) (hs : saysL n vs = false := by rfl) (hd : d < E.C.nt := by exact ltd rfl) (hg : Sd.gd ⟨env, H, gl⟩ ops ⟨some d, .alloc t, ty, pos, af, gd⟩ = some true := by exact rfl) (hw : way.loud = true := by exact rfl) : TR E draw ops Q (.step ⟨some d, .alloc t, ty, pos, af, gd⟩ way rest) ⟨env, H, gl⟩ := s_alloc n hn hs hd hg hw h
theorem z_box {t : Nat} {x : Operand} {v : V} {vs : List V} (n : Nat) (h : TR E draw ops Q rest ⟨(d, .ptr n 0) :: env, (n, .box vs) :: H, gl⟩) (hx : Sd.ev ⟨env, H, gl⟩ x = some v := by exact rfl) (hox : okOp x = true := by exact rfl) (hown : ownOk ⟨env, H, gl⟩ v = true := by first | exact rfl | exact ownOk_row rfl) (hc : CellsV v vs := by first | (refine CellsV.d (by first | exact CellsD.agg _ | constructor) (by (repeat (first | exact MapD.nil | apply MapD.nils | apply MapD.cons)); fail_if_success intros)) | constructor) (hn : Sd.fresh ⟨env, H, gl⟩ n = true := by exact rfl) (hs : saysL n vs = false := by rfl) (hd : d < E.C.nt := by exact ltd rfl) (hg : Sd.gd ⟨env, H, gl⟩ ops ⟨some d, .box t x, ty, pos, af, gd⟩ = some true := by exact rfl) (hw : way.loud = true := by exact rfl) : TR E draw ops Q (.step ⟨some d, .box t x, ty, pos, af, gd⟩ way rest) ⟨env, H, gl⟩ := s_box n hx hox hown hc hn hs hd hg hw h
theorem z_lit {t e sz len : Nat} {ps : List (Nat × Operand)} {xs : List D} [ht : TSlice E.P t e sz] (n : Nat) (h : TR E draw ops Q rest ⟨(d, .own n 0) :: env, (n, .row e sz true xs 0) :: H, gl⟩) (hp : Elems ⟨env, H, gl⟩ sz 0 ps xs := by (repeat (first | exact Elems.nil _ | apply Elems.cons rfl rfl (by first | exact ToD.d _ | exact ToD.nils _ | exact ToD.own rfl) (by first | exact CellsD.agg _ | constructor) (by rfl))); fail_if_success intros) (hlen : xs.length = len := by rfl) (hsmall : len * sz ≤ 16777216 := by decide) (hn : Sd.fresh ⟨env, H, gl⟩ n = true := by exact rfl) (hd : d < E.C.nt := by exact ltd rfl) (hg : Sd.gd ⟨env, H, gl⟩ ops ⟨some d, .buildSlice t len ps.toArray, ty, pos, af, gd⟩ = some true := by exact rfl) (hw : way.loud = true := by exact rfl) : TR E draw ops Q (.step ⟨some d, .buildSlice t len ps.toArray, ty, pos, af, gd⟩ way rest) ⟨env, H, gl⟩ := s_lit n hp hlen hsmall hn hd hg hw h
theorem z_store {t n off m : Nat} {x y : Operand} {v : V} {vs cs cs' : List V} [ht : TSize E.P t m] (h : TR E draw ops Q rest ⟨env, (n, .box cs') :: H, gl⟩) (hx : Sd.ev ⟨env, H, gl⟩ x = some (.ptr n off) := by exact rfl) (hox : okOp x = true := by exact rfl) (hy : Sd.ev ⟨env, H, gl⟩ y = some v := by exact rfl) (hoy : okOp y = true := by exact rfl) (hown : ownOk ⟨env, H, gl⟩ v = true := by first | exact rfl | exact ownOk_row rfl) (hl : look n H = some (.box cs) := by exact rfl) (hc : CellsV v vs := by first | (refine CellsV.d (by first | exact CellsD.agg _ | constructor) (by (repeat (first | exact MapD.nil | apply MapD.nils | apply MapD.cons)); fail_if_success intros)) | constructor) (hm : vs.length = m := by rfl) (hr : Repl cs off vs cs' := by (repeat (first | exact Repl.done _ | apply Repl.here | apply Repl.there)); fail_if_success intros) (hg : Sd.gd ⟨env, H, gl⟩ ops ⟨none, .store t x y, ty, pos, af, gd⟩ = some true := by exact rfl) (hw : isBar draw way = true := by exact rfl) : TR E draw ops Q (.step ⟨none, .store t x y, ty, pos, af, gd⟩ way rest) ⟨env, H, gl⟩ := s_store hx hox hy hoy hown hl hc hm hr hg hw h
theorem z_store_el {t n k i e sz : Nat} {x y : Operand} {v : V} {z : D} {xs zs : List D} [ht : TSize E.P t sz] (h : TR E draw ops Q rest ⟨env, (n, .row e sz false (xs.set i z) k) :: H, gl⟩) (hx : Sd.ev ⟨env, H, gl⟩ x = some (.el n k i 0) := by exact rfl) (hox : okOp x = true := by exact rfl) (hl : look n H = some (.row e sz false xs k) := by exact rfl) (hy : Sd.ev ⟨env, H, gl⟩ y = some v := by exact rfl) (hoy : okOp y = true := by exact rfl) (hz : ToD H v z := by first | exact ToD.d _ | exact ToD.nils _ | exact ToD.own rfl) (hc : CellsD z zs := by first | exact CellsD.agg _ | constructor) (hm : zs.length = sz := by exact rfl) (hi : i < xs.length := by first | omega | (simp only [List.length_cons, List.length_nil, List.length_append, List.length_map, List.length_take, List.length_drop]; omega)) (hg : Sd.gd ⟨env, H, gl⟩ ops ⟨none, .store t x y, ty, pos, af, gd⟩ = some true := by exact rfl) (hw : isBar draw way = true := by exact rfl) : TR E draw ops Q (.step ⟨none, .store t x y, ty, pos, af, gd⟩ way rest) ⟨env, H, gl⟩ := s_store_el hx hox hl hy hoy hz hc hm hi hg hw h
theorem z_store1 {t n off : Nat} {x y : Operand} {v : V} {cs : List V} [ht : TSize E.P t 1] (h : TR E draw ops Q rest ⟨env, (n, .box (cs.set off v)) :: H, gl⟩) (hx : Sd.ev ⟨env, H, gl⟩ x = some (.ptr n off) := by exact rfl) (hox : okOp x = true := by exact rfl) (hy : Sd.ev ⟨env, H, gl⟩ y = some v := by exact rfl) (hoy : okOp y = true := by exact rfl) (hown : ownOk ⟨env, H, gl⟩ v = true := by first | exact rfl | exact ownOk_row rfl) (hl : look n H = some (.box cs) := by exact rfl) (hc : CellsV v [v] := by first | (refine CellsV.d (by first | exact CellsD.agg _ | constructor) (by (repeat (first | exact MapD.nil | apply MapD.nils | apply MapD.cons)); fail_if_success intros)) | constructor) (hoff : off < cs.length := by first | omega | (simp only [List.length_cons, List.length_nil, List.length_append, List.length_map, List.length_take, List.length_drop]; omega)) (hg : Sd.gd ⟨env, H, gl⟩ ops ⟨none, .store t x y, ty, pos, af, gd⟩ = some true := by exact rfl) (hw : isBar draw way = true := by exact rfl) : TR E draw ops Q (.step ⟨none, .store t x y, ty, pos, af, gd⟩ way rest) ⟨env, H, gl⟩ := s_store1 hx hox hy hoy hown hl hc hoff hg hw h
theorem z_append0 {t e sz sz' : Nat} {s x : Operand} {v : V} {ys : List D} [ht : TSlice E.P t e sz] (n : Nat) (h : TR E draw ops Q rest ⟨(d, .own n 0) :: env, (n, .row e sz true ys 0) :: H, gl⟩) (hs : Sd.ev ⟨env, H, gl⟩ s = some (.nils sz') := by exact rfl) (hos : okOp s = true := by exact rfl) (hx : Sd.ev ⟨env, H, gl⟩ x = some v := by exact rfl) (hox : okOp x = true := by exact rfl) (hy : ToD H v (.list sz ys) := by first | exact ToD.d _ | exact ToD.nils _ | exact ToD.own rfl) (hlen : ys.length ≤ 100000000000 := by first | omega | (simp only [List.length_cons, List.length_nil, List.length_append, List.length_map, List.length_take, List.length_drop]; omega)) (hn : Sd.fresh ⟨env, H, gl⟩ n = true := by exact rfl) (hd : d < E.C.nt := by exact ltd rfl) (hg : Sd.gd ⟨env, H, gl⟩ ops ⟨some d, .call { callee := .builtin .append, args := #[s, x], argTypes := #[t, t] }, ty, pos, af, gd⟩ = some true := by exact rfl) (hw : way.loud = true := by exact rfl) : TR E draw ops Q (.step ⟨some d, .call { callee := .builtin .append, args := #[s, x], argTypes := #[t, t] }, ty, pos, af, gd⟩ way rest) ⟨env, H, gl⟩ := s_append0 n hs hos hx hox hy hlen hn hd hg hw h
theorem z_append {t e sz n k : Nat} {sh : Bool} {s x : Operand} {v : V} {xs ys : List D} [ht : TSlice E.P t e sz] (h : ∀ k', TR E draw ops Q rest ⟨(d, .own n k') :: env, (n, .row e sz sh (xs ++ ys) k') :: H, gl⟩) (hs : Sd.ev ⟨env, H, gl⟩ s = some (.own n k) := by exact rfl) (hos : okOp s = true := by exact rfl) (hl : look n H = some (.row e sz sh xs k) := by exact rfl) (hx : Sd.ev ⟨env, H, gl⟩ x = some v := by exact rfl) (hox : okOp x = true := by exact rfl) (hy : ToD H v (.list sz ys) := by first | exact ToD.d _ | exact ToD.nils _ | exact ToD.own rfl) (hlen : xs.length + ys.length ≤ 100000000000 := by first | omega | (simp only [List.length_cons, List.length_nil, List.length_append, List.length_map, List.length_take, List.length_drop]; omega)) (hN : E.C.N.contains n = false := by exact rfl) (hd : d < E.C.nt := by exact ltd rfl) (hg : Sd.gd ⟨env, H, gl⟩ ops ⟨some d, .call { callee := .builtin .append, args := #[s, x], argTypes := #[t, t] }, ty, pos, af, gd⟩ = some true := by exact rfl) (hw : isBar draw way = true := by exact rfl) : TR E draw ops Q (.step ⟨some d, .call { callee := .builtin .append, args := #[s, x], argTypes := #[t, t] }, ty, pos, af, gd⟩ way rest) ⟨env, H, gl⟩ := s_append hs hos hl hx hox hy hlen hN hd hg hw h
theorem z_append_suf {t e sz n k p : Nat} {s x : Operand} {v : V} {xs ys : List D} [ht : TSlice E.P t e sz] (h : ∀ xs' p' k', xs'.drop p' = xs.drop p ++ ys → p' ≤ xs'.length → xs'.length ≤ xs.length + ys.length → TR E draw ops Q rest ⟨(d, .suf n k' p') :: env, (n, .row e sz true xs' k') :: H, gl⟩) (hs : Sd.ev ⟨env, H, gl⟩ s = some (.suf n k p) := by exact rfl) (hos : okOp s = true := by exact rfl) (hl : look n H = some (.row e sz true xs k) := by exact rfl) (hx : Sd.ev ⟨env, H, gl⟩ x = some v := by exact rfl) (hox : okOp x = true := by exact rfl) (hy : ToD H v (.list sz ys) := by first | exact ToD.d _ | exact ToD.nils _ | exact ToD.own rfl) (hpos : 0 < ys.length := by first | omega | (simp only [List.length_cons, List.length_nil, List.length_append, List.length_map, List.length_take, List.length_drop]; omega)) (hlen : xs.length + ys.length ≤ 100000000000 := by first | omega | (simp only [List.length_cons, List.length_nil, List.length_append, List.length_map, List.length_take, List.length_drop]; omega)) (hN : E.C.N.contains n = false := by exact rfl) (hd : d < E.C.nt := by exact ltd rfl) (hg : Sd.gd ⟨env, H, gl⟩ ops ⟨some d, .call { callee := .builtin .append, args := #[s, x], argTypes := #[t, t] }, ty, pos, af, gd⟩ = some true := by exact rfl) (hw : isBar draw way = true := by exact rfl) : TR E draw ops Q (.step ⟨some d, .call { callee := .builtin .append, args := #[s, x], argTypes := #[t, t] }, ty, pos, af, gd⟩ way rest) ⟨env, H, gl⟩ := s_append_suf hs hos hl hx hox hy hpos hlen hN hd hg hw h
theorem z_pass {o : Oper} (h : TR E draw ops Q rest ⟨(d, .tup []) :: env, H, gl⟩) (hdst : o.dst = some d := by exact rfl) (hd : d < E.C.nt := by exact ltd rfl) (hg : Sd.gd ⟨env, H, gl⟩ ops o = some false := by exact rfl) : TR E draw ops Q (.step o way rest) ⟨env, H, gl⟩ := s_pass hdst hd hg h
theorem z_makeMap {t : Nat} (n : Nat) (h : TR E draw ops Q rest ⟨(d, .map n) :: env, (n, .map [] []) :: H, gl⟩) (hn : Sd.fresh ⟨env, H, gl⟩ n = true := by exact rfl) (hd : d < E.C.nt := by exact ltd rfl) (hg : Sd.gd ⟨env, H, gl⟩ ops ⟨some d, .makeMap t none, ty, pos, af, gd⟩ = some true := by exact rfl) (hw : way.loud = true := by exact rfl) : TR E draw ops Q (.step ⟨some d, .makeMap t none, ty, pos, af, gd⟩ way rest) ⟨env, H, gl⟩ := s_makeMap n hn hd hg hw h
theorem z_make {t e sz m : Nat} {k : IntKind} {p : Int} {x : Operand} {z : D} [ht : TSlice E.P t e sz] [hz : TZeroD E.P e z] (n : Nat) (h : TR E draw ops Q rest ⟨(d, .own n 0) :: env, (n, .row e sz false (List.replicate m z) 0) :: H, gl⟩) (hx : Sd.ev ⟨env, H, gl⟩ x = some (.d (.int k p)) := by exact rfl) (hox : okOp x = true := by exact rfl) (hp : p = (m : Nat) := by first | with_reducible exact nat_lit_eq | exact rfl | exact (Int.toNat_of_nonneg (by omega)).symm) (hm : m ≤ 1000000000 := by first | omega | (simp only [List.length_cons, List.length_nil, List.length_append, List.length_map, List.length_take, List.length_drop]; omega)) (hn : Sd.fresh ⟨env, H, gl⟩ n = true := by exact rfl) (hd : d < E.C.nt := by exact ltd rfl) (hg : Sd.gd ⟨env, H, gl⟩ ops ⟨some d, .makeSlice t x x, ty, pos, af, gd⟩ = some true := by exact rfl) (hw : way.loud = true := by exact rfl) : TR E draw ops Q (.step ⟨some d, .makeSlice t x x, ty, pos, af, gd⟩ way rest) ⟨env, H, gl⟩ := s_make n hx hox hp hm hn hd hg hw h
theorem z_str_eq {xt yt : TypeId} {x y : Operand} {s t : ByteArray} (h1 : s = t → TR E draw ops Q rest ⟨(d, .d (.bool true)) :: env, H, gl⟩) (h2 : ¬ s = t → TR E draw ops Q rest ⟨(d, .d (.bool false)) :: env, H, gl⟩) (hx : Sd.ev ⟨env, H, gl⟩ x = some (.d (.str s)) := by exact rfl) (hy : Sd.ev ⟨env, H, gl⟩ y = some (.d (.str t)) := by exact rfl) (hox : okOp x = true := by exact rfl) (hoy : okOp y = true := by exact rfl) (hd : d < E.C.nt := by exact ltd rfl) (hg : Sd.gd ⟨env, H, gl⟩ ops ⟨some d, .binOp .eql xt x y yt, ty, pos, af, gd⟩ = some true := by exact rfl) : TR E draw ops Q (.step ⟨some d, .binOp .eql xt x y yt, ty, pos, af, gd⟩ way rest) ⟨env, H, gl⟩ := s_str_eq hx hy hox hoy hd hg h1 h2
theorem z_str_ne {xt yt : TypeId} {x y : Operand} {s t : ByteArray} (h1 : s = t → TR E draw ops Q rest ⟨(d, .d (.bool false)) :: env, H, gl⟩) (h2 : ¬ s = t → TR E draw ops Q rest ⟨(d, .d (.bool true)) :: env, H, gl⟩) (hx : Sd.ev ⟨env, H, gl⟩ x = some (.d (.str s)) := by exact rfl) (hy : Sd.ev ⟨env, H, gl⟩ y = some (.d (.str t)) := by exact rfl) (hox : okOp x = true := by exact rfl) (hoy : okOp y = true := by exact rfl) (hd : d < E.C.nt := by exact ltd rfl) (hg : Sd.gd ⟨env, H, gl⟩ ops ⟨some d, .binOp .neq xt x y yt, ty, pos, af, gd⟩ = some true := by exact rfl) : TR E draw ops Q (.step ⟨some d, .binOp .neq xt x y yt, ty, pos, af, gd⟩ way rest) ⟨env, H, gl⟩ := s_str_ne hx hy hox hoy hd hg h1 h2
theorem z_agg_eq {t : Nat} {yt : TypeId} {x y : Operand} {ls : List Nat} {ds es : List D} {p : Prop} [ht : TEq E.P t ls] [hs : TAgg E.P t ls.length] (h1 : p → TR E draw ops Q rest ⟨(d, .d (.bool true)) :: env, H, gl⟩) (h2 : ¬ p → TR E draw ops Q rest ⟨(d, .d (.bool false)) :: env, H, gl⟩) (hx : Sd.ev ⟨env, H, gl⟩ x = some (.d (.agg ds)) := by exact rfl) (hy : Sd.ev ⟨env, H, gl⟩ y = some (.d (.agg es)) := by exact rfl) (hox : okOp x = true := by exact rfl) (hoy : okOp y = true := by exact rfl) (hE : EqC ls ds es p := by (repeat (first | exact EqC.nil | apply EqC.int | apply EqC.bool | apply EqC.str)); fail_if_success intros) (hd : d < E.C.nt := by exact ltd rfl) (hg : Sd.gd ⟨env, H, gl⟩ ops ⟨some d, .binOp .eql t x y yt, ty, pos, af, gd⟩ = some true := by exact rfl) : TR E draw ops Q (.step ⟨some d, .binOp .eql t x y yt, ty, pos, af, gd⟩ way rest) ⟨env, H, gl⟩ := s_agg_eq hx hy hox hoy hE hd hg h1 h2
theorem z_agg_ne {t : Nat} {yt : TypeId} {x y : Operand} {ls : List Nat} {ds es : List D} {p : Prop} [ht : TEq E.P t ls] [hs : TAgg E.P t ls.length] (h1 : p → TR E draw ops Q rest ⟨(d, .d (.bool false)) :: env, H, gl⟩) (h2 : ¬ p → TR E draw ops Q rest ⟨(d, .d (.bool true)) :: env, H, gl⟩) (hx : Sd.ev ⟨env, H, gl⟩ x = some (.d (.agg ds)) := by exact rfl) (hy : Sd.ev ⟨env, H, gl⟩ y = some (.d (.agg es)) := by exact rfl) (hox : okOp x = true := by exact rfl) (hoy : okOp y = true := by exact rfl) (hE : EqC ls ds es p := by (repeat (first | exact EqC.nil | apply EqC.int | apply EqC.bool | apply EqC.str)); fail_if_success intros) (hd : d < E.C.nt := by exact ltd rfl) (hg : Sd.gd ⟨env, H, gl⟩ ops ⟨some d, .binOp .neq t x y yt, ty, pos, af, gd⟩ = some true := by exact rfl) : TR E draw ops Q (.step ⟨some d, .binOp .neq t x y yt, ty, pos, af, gd⟩ way rest) ⟨env, H, gl⟩ := s_agg_ne hx hy hox hoy hE hd hg h1 h2
theorem z_cmp {op : BinOp} {xt yt : TypeId} {x y : Operand} {k : IntKind} {p q : Int} (h1 : cmp op p q → TR E draw ops Q rest ⟨(d, .d (.bool true)) :: env, H, gl⟩) (h2 : ¬ cmp op p q → TR E draw ops Q rest ⟨(d, .d (.bool false)) :: env, H, gl⟩) (hop : isCmp op = true := by exact rfl) (hx : Sd.ev ⟨env, H, gl⟩ x = some (.d (.int k p)) := by exact rfl) (hy : Sd.ev ⟨env, H, gl⟩ y = some (.d (.int k q)) := by exact rfl) (hox : okOp x = true := by exact rfl) (hoy : okOp y = true := by exact rfl) (hd : d < E.C.nt := by exact ltd rfl) (hg : Sd.gd ⟨env, H, gl⟩ ops ⟨some d, .binOp op xt x y yt, ty, pos, af, gd⟩ = some true := by exact rfl) : TR E draw ops Q (.step ⟨some d, .binOp op xt x y yt, ty, pos, af, gd⟩ way rest) ⟨env, H, gl⟩ := s_cmp hop hx hy hox hoy hd hg h1 h2
theorem z_call {f : Nat} {xs : List Operand} {ats : Array TypeId} {vs vs' : List V} {R : V → Prop} [hf : TFun E.P f] (h : ∀ v, R v → TR E draw ops Q rest ⟨(d, v) :: env, H, gl⟩) (hx : Evs ⟨env, H, gl⟩ xs vs := by (repeat (first | exact Evs.nil | apply Evs.cons rfl rfl)); fail_if_success intros) (ha : Args H vs vs' := by (repeat (first | exact Args.nil | apply Args.cons (Arg.d _) | apply Args.cons (Arg.own rfl) | apply Args.cons (Arg.nils _) | apply Args.cons (Arg.clo0 _))); fail_if_success intros) (hc : FnD E.P gl f vs' R) (hd : d < E.C.nt := by exact ltd rfl) (hg : Sd.gd ⟨env, H, gl⟩ ops ⟨some d, .call { callee := .value (.func f), args := xs.toArray, argTypes := ats }, ty, pos, af, gd⟩ = some true := by exact rfl) (hw : way.loud = true := by exact rfl) : TR E draw ops Q (.step ⟨some d, .call { callee := .value (.func f), args := xs.toArray, argTypes := ats }, ty, pos, af, gd⟩ way rest) ⟨env, H, gl⟩ := s_call hx ha hc hd hg hw h
theorem z_callE {f : Nat} {fx : Operand} {xs : List Operand} {ats : Array TypeId} {fs gs vs args : List V} {H0 : List (Nat × Ob)} {R : V → List (Nat × Ob) → Prop} [hf : TFun E.P f] (h : ∀ v H1, R v H1 → freshNew ⟨env, H, gl⟩ H0 H1 = true ∧ TR E draw ops Q rest ⟨(d, v) :: env, H1 ++ H, gl⟩) (hfx : Sd.ev ⟨env, H, gl⟩ fx = some (.clo (.func f) fs gs) := by exact rfl) (hof : okOp fx = true := by exact rfl) (hx : Evs ⟨env, H, gl⟩ xs vs := by (repeat (first | exact Evs.nil | apply Evs.cons rfl rfl)); fail_if_success intros) (ha : ArgsE H (fs ++ vs ++ gs) args := by (repeat (first | exact ArgsE.nil | apply ArgsE.cons (ArgE.own rfl) | apply ArgsE.cons (ArgE.nils _) | apply ArgsE.cons (ArgE.same _))); fail_if_success intros) (hc : FnE E.P gl f args H0 R) (hs : SubH H H0 := by (repeat (first | exact SubH.nil | apply SubH.cons rfl)); fail_if_success intros) (hwm : wholeMut H0 = true := by exact rfl) (hd : d < E.C.nt := by exact ltd rfl) (hg : Sd.gd ⟨env, H, gl⟩ ops ⟨some d, .call { callee := .value fx, args := xs.toArray, argTypes := ats }, ty, pos, af, gd⟩ = some true := by exact rfl) (hw : isBar draw way = true := by exact rfl) : TR E draw ops Q (.step ⟨some d, .call { callee := .value fx, args := xs.toArray, argTypes := ats }, ty, pos, af, gd⟩ way rest) ⟨env, H, gl⟩ := s_callE hfx hof hx ha hc hs hwm hd hg hw h
def memN (t : Nat) : List Nat → Bool
  | [] => false
  | s :: r => bif Nat.beq s t then true else memN t r
def delN (t : Nat) : List Nat → List Nat
  | [] => []
  | s :: r => bif Nat.beq s t then r else s :: delN t r
theorem memN_iff {t : Nat} : ∀ {l : List Nat}, memN t l = true ↔ t ∈ l
  | [] => by simp [memN]
  | s :: r => by
    show (bif Nat.beq s t then true else memN t r) = true ↔ _
    cases h : Nat.beq s t with
    | true => have := Nat.eq_of_beq_eq_true h; simp [this]
    | false => have := beq_false.1 h; simp only [cond_false, List.mem_cons, memN_iff]; exact ⟨.inr, fun h => h.resolve_left (fun e => this e.symm)⟩
theorem delN_sub {t x : Nat} : ∀ {l : List Nat}, x ∈ delN t l → x ∈ l
  | [], h => h
  | s :: r, h => by
    have h' : x ∈ (bif Nat.beq s t then r else s :: delN t r) := h
    cases hb : Nat.beq s t with
    | true => rw [hb] at h'; exact List.mem_cons_of_mem _ h'
    | false =>
      rw [hb] at h'
      rcases List.mem_cons.1 h' with rfl | h'
      · exact List.mem_cons_self
      · exact List.mem_cons_of_mem _ (delN_sub h')
theorem delN_nd {t : Nat} : ∀ {l : List Nat}, l.Nodup → (delN t l).Nodup ∧ t ∉ delN t l
  | [], h => ⟨h, fun h => by cases h⟩
  | s :: r, h => by
    obtain ⟨h1, h2⟩ := List.nodup_cons.1 h
    have e : delN t (s :: r) = (bif Nat.beq s t then r else s :: delN t r) := rfl
    rw [e]
    cases hb : Nat.beq s t with
    | true => have := Nat.eq_of_beq_eq_true hb; subst this; exact ⟨h2, h1⟩
    | false =>
      obtain ⟨q1, q2⟩ := delN_nd (t := t) h2
      refine ⟨List.nodup_cons.2 ⟨fun h => h1 (delN_sub h), q1⟩, fun h => ?_⟩
      rcases List.mem_cons.1 h with rfl | h
      · exact beq_false.1 hb rfl
      · exact q2 h
inductive Keep : List Nat → List (Nat × V) → List (Nat × V) → Prop
  | nil (ts : List Nat) : Keep ts [] []
  | take {ts : List Nat} {t : Nat} {v : V} {l r : List (Nat × V)} (h : memN t ts = true) (k : Keep (delN t ts) l r) : Keep ts ((t, v) :: l) ((t, v) :: r)
  | ghost {ts : List Nat} {t : Nat} {v : V} {l r : List (Nat × V)} (h : Nat.ble 100000 t = true) (k : Keep ts l r) : Keep ts ((t, v) :: l) ((t, v) :: r)
  | drop {ts : List Nat} {t : Nat} {v : V} {l r : List (Nat × V)} (h : Nat.ble 100000 t = false) (h' : memN t ts = false) (k : Keep ts l r) : Keep ts ((t, v) :: l) r
theorem Keep.from {ts : List Nat} {l r : List (Nat × V)} (h : Keep ts l r) {t : Nat} {v : V} (hl : look t r = some v) : t ∈ ts ∨ 100000 ≤ t := by
  induction h with
  | nil => cases hl
  | @take ts s u l r h k ih =>
    rw [look_cons] at hl
    split at hl
    · rename_i e; subst e; exact .inl (memN_iff.1 h)
    · exact (ih hl).imp delN_sub id
  | @ghost ts s u l r h k ih =>
    rw [look_cons] at hl
    split at hl
    · rename_i e; subst e; exact .inr (Nat.le_of_ble_eq_true h)
    · exact ih hl
  | drop _ _ _ ih => exact ih hl
theorem Keep.look {ts : List Nat} {l r : List (Nat × V)} (h : Keep ts l r) (hnd : ts.Nodup) : ∀ {t : Nat} {v : V}, Go.Proofs.YtjhbglklcddekaaGreatDoor.look t r = some v → Go.Proofs.YtjhbglklcddekaaGreatDoor.look t l = some v := by
  induction h with
  | nil => intro t v h; exact h
  | @take ts s u l r h k ih =>
    intro t v hl
    rw [look_cons] at hl ⊢
    split at hl
    · rename_i e; rw [if_pos e]; exact hl
    · rename_i e; rw [if_neg e]; exact ih (delN_nd hnd).1 hl
  | @ghost ts s u l r h k ih =>
    intro t v hl
    rw [look_cons] at hl ⊢
    split at hl
    · rename_i e; rw [if_pos e]; exact hl
    · rename_i e; rw [if_neg e]; exact ih hnd hl
  | @drop ts s u l r h h' k ih =>
    intro t v hl
    rw [look_cons]
    split
    · rename_i e
      subst e
      rcases k.from hl with q | q
      · rw [memN_iff.2 q] at h'; cases h'
      · have := Nat.ble_eq_true_of_le q; rw [this] at h; cases h
    · exact ih hnd hl
inductive KeepH : List Nat → List (Nat × Ob) → List (Nat × Ob) → Prop
  | nil (ts : List Nat) : KeepH ts [] []
  | take {ts : List Nat} {n : Nat} {ob : Ob} {l r : List (Nat × Ob)} (h : memN n ts = false) (k : KeepH (n :: ts) l r) : KeepH ts ((n, ob) :: l) ((n, ob) :: r)
  | drop {ts : List Nat} {n : Nat} {ob : Ob} {l r : List (Nat × Ob)} (h : memN n ts = true) (k : KeepH ts l r) : KeepH ts ((n, ob) :: l) r
theorem KeepH.look {ts : List Nat} {l r : List (Nat × Ob)} (h : KeepH ts l r) : ∀ {n : Nat}, n ∉ ts → Go.Proofs.YtjhbglklcddekaaGreatDoor.look n r = Go.Proofs.YtjhbglklcddekaaGreatDoor.look n l := by
  induction h with
  | nil => intro n _; rfl
  | @take ts m ob l r h k ih =>
    intro n hn
    rw [look_cons, look_cons]
    split
    · rfl
    · rename_i e
      exact ih (by rw [List.mem_cons, not_or]; exact ⟨fun e' => e e'.symm, hn⟩)
  | @drop ts m ob l r h k ih =>
    intro n hn
    rw [look_cons]
    split
    · rename_i e; subst e; exact absurd (memN_iff.1 h) hn
    · exact ih hn
def nodupN : List Nat → Bool
  | [] => true
  | t :: r => !memN t r && nodupN r
theorem nodupN_iff : ∀ {l : List Nat}, nodupN l = true → l.Nodup
  | [], _ => List.nodup_nil
  | t :: r, h => by
    simp only [nodupN, Bool.and_eq_true, Bool.not_eq_true'] at h
    exact List.nodup_cons.2 ⟨fun hm => (by rw [memN_iff.2 hm] at h; cases h.1), nodupN_iff h.2⟩
theorem z_nil (ts : List Nat) {env' : List (Nat × V)} {H' : List (Nat × Ob)} (h : Q .normal ⟨env', H', gl⟩) (hts : nodupN ts = true := by exact rfl) (hk : Keep ts env env' := by (repeat (first | exact Keep.nil _ | apply Keep.drop rfl rfl | apply Keep.take rfl | apply Keep.ghost rfl)); fail_if_success intros) (hh : KeepH [] H H' := by (repeat (first | exact KeepH.nil _ | apply KeepH.take rfl | apply KeepH.drop rfl)); fail_if_success intros) : TR E draw ops Q .nil ⟨env, H, gl⟩ := fun a w hS => by
  have wk1 : ∀ a w, St E.C ⟨env, H, gl⟩ a w → St E.C ⟨env', H', gl⟩ a w := fun a w ⟨β, hB⟩ => ⟨β, hB.weak (fun t v hl => hk.look (nodupN_iff hts) hl) (fun n ob hl => by
    have := hh.look (n := n) (by simp)
    dsimp only at hl ⊢
    rw [← this]; exact hl) (fun _ _ h => h) (fun n hn => by
    have := hh.look (n := n) (by simp)
    dsimp only
    rw [this]; exact hB.has n hn)⟩
  cases draw with
  | true => exact fun n => ⟨_, wk1 _ _ (hS.later n.grows), h⟩
  | false => exact wpListIn_nil ⟨_, wk1 _ _ hS, h⟩
end
end
end Go.Proofs.YtjhbglklcddekaaGreatDoor
