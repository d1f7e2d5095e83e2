/- Parts: D31, D32, D33, D34, D35, D36, T, D37. -/
import Derived.Test.YtjhbglklcddekaaGreatDoorQ15
import Derived.LoopNIn
import Derived.Test.YtjhbglklcddekaaGreatDoorProg
import Derived.Laws.CopyRow
set_option linter.all false
set_option maxRecDepth 100000
set_option maxHeartbeats 16000000
namespace Go.Proofs.YtjhbglklcddekaaGreatDoor
open Go.RowKit Go.Proofs.Tryz
section
theorem StB.recast {C : Ctx} {β β' : Nat → Hd} {S : Sd} {a : Act} {w : World} (h : StB C β S a w) {H' : List (Nat × Ob)} (n q : Nat)
    (hold : ∀ m ob, m ≠ n → m ≠ q → look m H' = some ob → look m S.H = some ob) (hβ : ∀ m, m ≠ n → m ≠ q → β' m = β m) (hn : (β' n).v = (β n).v) (hnr : ∀ e sz sh xs k, look n H' ≠ some (.row e sz sh xs k)) (hq : S.fresh q = true ∨ (look q H' = none ∧ β' q = β q))
    (hown : ∀ m ob b o, m = n ∨ m = q → look m H' = some ob → own (β' m) ob b → (∃ m0 ob0, (m0 = n ∨ m0 = q) ∧ look m0 S.H = some ob0 ∧ own (β m0) ob0 b ∧ (ob.mut o → ob0.mut o)))
    (hap : ∀ b ob ob', n ≠ q → look n H' = some ob → look q H' = some ob' → own (β' n) ob b → ¬ own (β' q) ob' b)
    (hobs : Keeps w (Mut C.M0 β S.H) w (Mut C.M0 β' H') → (∀ x v, x.says q = false → RepV w (Mut C.M0 β S.H) β S.H x v → RepV w (Mut C.M0 β' H') β' H' x v) → (∀ xs vs, saysL q xs = false → RepL w (Mut C.M0 β S.H) β S.H xs vs → RepL w (Mut C.M0 β' H') β' H' xs vs) → ∀ m ob, n = m ∨ q = m → look m H' = some ob → RepO w (Mut C.M0 β' H') β' H' (β' m) ob)
    (hN : ∀ m ∈ C.N, (look m H').isSome = true) : StB C β' { S with H := H' } a w := by
  have hsn : ∀ m, m ≠ q → V.SameNames β β' S.H H' m := fun m hm => by
    by_cases hmn : m = n
    · subst hmn
      exact ⟨hn, fun e sz sh xs k hl => absurd hl (hnr _ _ _ _ _)⟩
    · exact ⟨congrArg Hd.v (hβ m hmn hm), fun e sz sh xs k hl => ⟨sh, xs, hold m _ hmn hm hl⟩⟩
  have hmut : ∀ b o, Mut C.M0 β' H' b o → Mut C.M0 β S.H b o := fun b o hm => by
    rcases hm with hm | ⟨m, ob, h1, h2, h3⟩
    · exact .inl hm
    · by_cases hmn : m = n ∨ m = q
      · obtain ⟨m0, ob0, _, h5, h6, h7⟩ := hown m ob b o hmn h1 h2
        exact .inr ⟨m0, ob0, h5, h6, h7 h3⟩
      · simp only [not_or] at hmn
        rw [hβ m hmn.1 hmn.2] at h2
        exact .inr ⟨m, ob, hold m ob hmn.1 hmn.2 h1, h2, h3⟩
  have k : Keeps w (Mut C.M0 β S.H) w (Mut C.M0 β' H') := Keeps.weak hmut
  have hq' : ∀ x : V, x.says q = false ∨ (look q H' = none ∧ β' q = β q) → ∀ m, x.says m = true → V.SameNames β β' S.H H' m := fun x hx m hm => by
    by_cases hmq : m = q
    · subst hmq
      rcases hx with hx | ⟨hx, hx'⟩
      · rw [hx] at hm; cases hm
      · exact ⟨congrArg Hd.v hx', fun e sz sh xs k hl => by rw [hx] at hl; cases hl⟩
    · exact hsn m hmq
  have hqL : ∀ xs : List V, saysL q xs = false ∨ (look q H' = none ∧ β' q = β q) → ∀ m, saysL m xs = true → V.SameNames β β' S.H H' m := fun x hx m hm => by
    by_cases hmq : m = q
    · subst hmq
      rcases hx with hx | ⟨hx, hx'⟩
      · rw [hx] at hm; cases hm
      · exact ⟨congrArg Hd.v hx', fun e sz sh xs k hl => by rw [hx] at hl; cases hl⟩
    · exact hsn m hmq
  have pl : ∀ m ob b, look m H' = some ob → own (β' m) ob b → ∃ m0 ob0, look m0 S.H = some ob0 ∧ own (β m0) ob0 b := fun m ob b h1 h2 => by
    by_cases hmn : m = n ∨ m = q
    · obtain ⟨m0, ob0, _, h5, h6, _⟩ := hown m ob b 0 hmn h1 h2
      exact ⟨m0, ob0, h5, h6⟩
    · simp only [not_or] at hmn
      rw [hβ m hmn.1 hmn.2] at h2
      exact ⟨m, ob, hold m ob hmn.1 hmn.2 h1, h2⟩
  refine ⟨h.size, h.small, h.defers, h.sys, fun t v hl => ?_, fun m ob hl => ?_, fun m m' b ob ob' hne h1 h2 h3 h4 => ?_, fun m ob b hl h1 => ?_, fun g cs hl => (h.glob g cs hl).keep k, h.frame, fun m ob b o hl h1 => ?_, h.low, fun m hm => ?_, hN⟩
  · obtain ⟨u, h1, h2⟩ := h.env t v hl
    refine ⟨u, h1, RepV.gen k v u (hq' v ?_) h2⟩
    rcases hq with hq | hq
    · simp only [Sd.fresh, Bool.and_eq_true] at hq
      exact .inl (noneSays_look hq.1 hl)
    · exact .inr hq
  · by_cases hmn : m = n ∨ m = q
    · refine hobs k (fun x v hx hr => RepV.gen k x v (hq' x (.inl hx)) hr) (fun x v hx hr => RepL.gen k x v (hqL x (.inl hx)) hr) m ob (hmn.imp Eq.symm Eq.symm) hl
    · simp only [not_or] at hmn
      rw [hβ m hmn.1 hmn.2]
      have hl0 := hold m ob hmn.1 hmn.2 hl
      refine RepO.keep k (fun _ _ => rfl) (fun vs hL => RepL.gen k _ vs (hqL _ ?_) hL) (h.obs m ob hl0)
      rcases hq with hq | hq
      · simp only [Sd.fresh, Bool.and_eq_true] at hq
        exact .inl (noneSaysO_look hq.2 hl0).2
      · exact .inr hq
  · have key : ∀ m m' ob ob', m ≠ m' → (m = n ∨ m = q) → ¬ (m' = n ∨ m' = q) → look m H' = some ob → look m' H' = some ob' → own (β' m) ob b → own (β' m') ob' b → False := fun m m' ob ob' hne hm hm' h1 h2 h3 h4 => by
      obtain ⟨m0, ob0, h5, h6, h7, _⟩ := hown m ob b 0 hm h1 h3
      simp only [not_or] at hm'
      rw [hβ m' hm'.1 hm'.2] at h4
      refine h.apart m0 m' b ob0 ob' ?_ h6 (hold m' ob' hm'.1 hm'.2 h2) h7 h4
      rintro rfl
      rcases h5 with h5 | h5
      · exact hm'.1 h5
      · exact hm'.2 h5
    by_cases hm : m = n ∨ m = q
    · by_cases hm' : m' = n ∨ m' = q
      · rcases hm with rfl | rfl
        · rcases hm' with rfl | rfl
          · exact hne rfl
          · exact hap b ob ob' hne h1 h2 h3 h4
        · rcases hm' with rfl | rfl
          · exact hap b ob' ob (Ne.symm hne) h2 h1 h4 h3
          · exact hne rfl
      · exact key m m' ob ob' hne hm hm' h1 h2 h3 h4
    · by_cases hm' : m' = n ∨ m' = q
      · exact key m' m ob' ob (Ne.symm hne) hm' hm h2 h1 h4 h3
      · simp only [not_or] at hm hm'
        rw [hβ m hm.1 hm.2] at h3
        rw [hβ m' hm'.1 hm'.2] at h4
        exact h.apart m m' b ob ob' hne (hold m ob hm.1 hm.2 h1) (hold m' ob' hm'.1 hm'.2 h2) h3 h4
  · obtain ⟨m0, ob0, h5, h6⟩ := pl m ob b hl h1
    exact h.place m0 ob0 b h5 h6
  · obtain ⟨m0, ob0, h5, h6⟩ := pl m ob b hl h1
    exact h.out m0 ob0 b o h5 h6
  · by_cases hmq : m = q
    · subst hmq
      rcases hq with hq | hq
      · have := h.has m hm
        rw [Sd.fresh_none hq] at this
        cases this
      · rw [hq.2]
        exact h.fix m hm
    · by_cases hmn : m = n
      · subst hmn
        rw [hn]
        exact h.fix m hm
      · rw [hβ m hmn hmq]
        exact h.fix m hm
section
variable {E : Set} {Q : Exit → Sd → Prop} {ops : Array Oper} {draw : Bool} {rest : Todo} {way : Way3} {ty : TypeId} {pos : String} {af : Array Edge} {gd : Option (Nat × Bool)} {dst : Option Tmp}
variable {env : List (Nat × V)} {H : List (Nat × Ob)} {gl : List (Nat × List D)} {d : Nat}
theorem StB.hboxOut {C : Ctx} {β : Nat → Hd} {S : Sd} {a : Act} {w : World} (h : StB C β S a w) {n q e sz i : Nat} {xs : List D} {cs : List V} (hl : look n S.H = some (.hbox e sz xs i cs)) (hq : S.fresh q = true) :
    ∃ β', StB C β' { S with H := (n, .box (cs.set i (.own q 0))) :: (q, .row e sz false xs 0) :: S.H } a w := by
  have hqn : n ≠ q := by
    rintro rfl
    rw [Sd.fresh_none hq] at hl
    cases hl
  obtain ⟨b, vs, u, t, ys, h1, h2, h3, h4, h5, h6, h7, h8⟩ := h.obs n _ hl
  have hbq : hb (β n).v = some b := by rw [h1]; rfl
  have hlq : ∀ m, look m ((n, Ob.box (cs.set i (.own q 0))) :: (q, Ob.row e sz false xs 0) :: S.H) = if n = m then some (.box (cs.set i (.own q 0))) else if q = m then some (.row e sz false xs 0) else look m S.H := fun m => by rw [look_cons, look_cons]
  refine ⟨fun m => if m = q then ⟨u, []⟩ else β m, h.recast n q (fun m ob hm hm' hl' => ?_) (fun m hm hm' => by simp [hm']) (by simp [hqn]) (fun e sz sh xs k hl' => ?_) (.inl hq) (fun m ob b' o hm hl' ho => ?_) (fun b' ob ob' _ hl1 hl2 ho1 ho2 => ?_) (fun k hV hL m ob hm hl' => ?_) (fun m hm => ?_)⟩
  · rw [hlq, if_neg (Ne.symm hm), if_neg (Ne.symm hm')] at hl'
    exact hl'
  · rw [hlq, if_pos rfl] at hl'
    cases hl'
  · refine ⟨n, _, .inl rfl, hl, ?_, fun _ => trivial⟩
    rcases hm with rfl | rfl
    · rw [hlq, if_pos rfl] at hl'
      cases hl'
      simp only [hqn, if_false] at ho
      exact .inl ((own_flat rfl).1 ho)
    · rw [hlq, if_neg hqn, if_pos rfl] at hl'
      cases hl'
      simp only [if_true] at ho
      exact .inr ⟨rfl, (h5 b').2 ((own_flat rfl).1 ho)⟩
  · rw [hlq, if_pos rfl] at hl1
    rw [hlq, if_neg hqn, if_pos rfl] at hl2
    cases hl1
    cases hl2
    simp only [hqn, if_false] at ho1
    simp only [if_true] at ho2
    have e1 := (own_flat rfl).1 ho1
    rw [hbq] at e1
    cases e1
    exact h6 ((h5 b).2 ((own_flat rfl).1 ho2))
  · rcases hm with rfl | rfl
    · rw [hlq, if_pos rfl] at hl'
      cases hl'
      simp only [hqn, if_false]
      refine ⟨b, vs.set i u, t, h1, h2, ?_⟩
      simp only [Sd.fresh, Bool.and_eq_true] at hq
      have h9 := RepL.set (hL cs vs (noneSaysO_look hq.2 hl).2 h8) i (x := .own q 0) (v := u) ?_
      · exact h9
      · intro e' sz' sh xs' hl''
        simp
    · rw [hlq, if_neg hqn, if_pos rfl] at hl'
      cases hl'
      simp only [if_true]
      exact ⟨ys, h3, RepE.keep k _ _ _ h4⟩
  · rw [hlq]
    split
    · rfl
    · split
      · rfl
      · exact h.has m hm
theorem StB.hboxIn {C : Ctx} {β : Nat → Hd} {S : Sd} {a : Act} {w : World} (h : StB C β S a w) {n q e sz i k : Nat} {xs : List D} {cs : List V} {H0 : List (Nat × Ob)} (hl : look n S.H = some (.box cs)) (hi : cs[i]? = some (.own q k)) (hr : look q S.H = some (.row e sz false xs k))
    (hs : saysL q (cs.set i (.nils 0)) = false) (hd : ∀ m, m ≠ q → look m H0 = look m S.H) (hdq : look q H0 = none) (hN : C.N.contains q = false) :
    ∃ β', StB C β' { S with H := (n, .hbox e sz xs i (cs.set i (.nils 0))) :: H0 } a w := by
  have hqn : n ≠ q := by
    rintro rfl
    rw [hl] at hr
    cases hr
  obtain ⟨b, vs, t, h1, h2, h3⟩ := h.obs n _ hl
  obtain ⟨ys, h4, h5⟩ := h.obs q _ hr
  obtain ⟨u, h6, h7⟩ := h3.get hi
  have hu : u = (β q).v := h7 e sz false xs hr
  subst hu
  have hiv : i < vs.length := (List.getElem?_eq_some_iff.1 h6).1
  have hbq : hb (β n).v = some b := by rw [h1]; rfl
  have hlq : ∀ m, look m ((n, Ob.hbox e sz xs i (cs.set i (.nils 0))) :: H0) = if n = m then some (.hbox e sz xs i (cs.set i (.nils 0))) else look m H0 := fun m => by rw [look_cons]
  refine ⟨fun m => if m = n then ⟨(β n).v, (hb (β q).v).toList⟩ else β m, h.recast n q (fun m ob hm hm' hl' => ?_) (fun m hm hm' => by simp [hm]) (by simp) (fun e sz sh xs k hl' => ?_) (.inr ⟨?_, by simp [Ne.symm hqn]⟩) (fun m ob b' o hm hl' ho => ?_) (fun b' ob ob' _ hl1 hl2 ho1 ho2 => ?_) (fun k hV hL m ob hm hl' => ?_) (fun m hm => ?_)⟩
  · rw [hlq, if_neg (Ne.symm hm), hd m hm'] at hl'
    exact hl'
  · rw [hlq, if_pos rfl] at hl'
    cases hl'
  · rw [hlq, if_neg hqn]
    exact hdq
  · rcases hm with hm | hm
    · have hm := hm.symm
      subst hm
      rw [hlq, if_pos rfl] at hl'
      cases hl'
      simp only [if_true] at ho
      rcases ho with ho | ⟨_, ho⟩
      · exact ⟨n, _, .inl rfl, hl, .inl ho, fun _ => trivial⟩
      · exact ⟨q, _, .inr rfl, hr, .inl (by simpa using ho), fun _ => .inl rfl⟩
    · have hm := hm.symm
      subst hm
      rw [hlq, if_neg hqn, hdq] at hl'
      cases hl'
  · rw [hlq, if_neg hqn, hdq] at hl2
    cases hl2
  · rcases hm with rfl | rfl
    · rw [hlq, if_pos rfl] at hl'
      cases hl'
      simp only [if_true]
      refine ⟨b, vs.set i (.slice none 0 0), (β q).v, t, ys, h1, ?_, h4, RepE.keep k _ _ _ h5, fun q' => by simp, ?_, by simpa using hiv, hL _ _ hs (RepL.set h3 i rfl)⟩
      · rw [List.set_set]
        rw [show vs.set i (β q).v = vs from by
          obtain ⟨h8, h9⟩ := List.getElem?_eq_some_iff.1 h6
          rw [← h9]; exact List.set_getElem_self h8]
        exact h2
      · intro hm
        have : hb (β q).v = some b := by simpa using hm
        exact h.apart n q b _ _ hqn hl hr (.inl hbq) (.inl this)
    · rw [hlq, if_neg hqn, hdq] at hl'
      cases hl'
  · rw [hlq]
    split
    · rfl
    · rename_i hmn
      by_cases hmq : m = q
      · subst hmq
        simp [hm] at hN
      · rw [hd m hmq]
        exact h.has m hm
end
end
section
theorem drop_tells {α : Type} {q : Nat} {l r : List (Nat × α)} (h : Drop [q] l r) : (∀ m, m ≠ q → look m r = look m l) ∧ look q r = none := by
  induction h with
  | nil => exact ⟨fun _ _ => rfl, rfl⟩
  | @take t v l r h1 _ ih =>
    have hne : t ≠ q := fun e => by subst e; simp [memN] at h1
    refine ⟨fun m hm => ?_, ?_⟩
    · rw [look_cons, look_cons]
      split
      · rfl
      · exact ih.1 m hm
    · rw [look_cons, if_neg hne]
      exact ih.2
  | @drop t v l r h1 _ ih =>
    refine ⟨fun m hm => ?_, ih.2⟩
    rw [look_cons, if_neg]
    · exact ih.1 m hm
    · rintro rfl
      simp [memN, Ne.symm hm] at h1
section
variable {E : Set} {Q : Exit → Sd → Prop} {ops : Array Oper} {draw : Bool} {rest : Todo} {way : Way3} {ty : TypeId} {pos : String} {af : Array Edge} {gd : Option (Nat × Bool)} {dst : Option Tmp}
variable {env : List (Nat × V)} {H : List (Nat × Ob)} {gl : List (Nat × List D)} {d : Nat} {C : Ctx}
theorem wk_hbox_out {n q e sz i : Nat} {xs : List D} {cs : List V} (hl : look n H = some (.hbox e sz xs i cs)) (hq : Sd.fresh ⟨env, H, gl⟩ q = true) : Wk C ⟨env, H, gl⟩ ⟨env, (n, .box (cs.set i (.own q 0))) :: (q, .row e sz false xs 0) :: H, gl⟩ :=
  fun _ _ ⟨_, hB⟩ => hB.hboxOut hl hq
theorem wk_hbox_in {n q e sz i k : Nat} {xs : List D} {cs : List V} {H0 : List (Nat × Ob)} (hl : look n H = some (.box cs)) (hi : cs[i]? = some (.own q k)) (hr : look q H = some (.row e sz false xs k)) (hs : saysL q (cs.set i (.nils 0)) = false) (hd : Drop [q] H H0) (hN : C.N.contains q = false) :
    Wk C ⟨env, H, gl⟩ ⟨env, (n, .hbox e sz xs i (cs.set i (.nils 0))) :: H0, gl⟩ :=
  fun _ _ ⟨_, hB⟩ => hB.hboxIn hl hi hr hs (drop_tells hd).1 (drop_tells hd).2 hN
theorem tc_wk {c : Code} {S S' : Sd} (hw : Wk E.C S S') (h : TC E c Q S') : TC E c Q S := fun a w hS => h a w (hw a w hS)
end
end
section
structure SwiftK (E : Set) (S : Sd) (o : Oper) (S' : Nat → Sd) (v : Nat → V) : Prop where
  out : ∀ β a w, StB E.C β S a w → ∃ x β' k, (∀ w', (execOp a.eval o).run E.P w' = .ok (.value x) w') ∧ StB E.C β' (S' k) a w ∧ RepV w (Mut E.C.M0 β' (S' k).H) β' (S' k).H (v k) x
theorem tr_stillK {E : Set} {Q : Exit → Sd → Prop} {S : Sd} {ops : Array Oper} {draw : Bool} {rest : Todo} {way : Way3} {o : Oper} {d : Nat} {S' : Nat → Sd} {v : Nat → V} (hq : SwiftK E S o S' v) (hdst : o.dst = some d) (hd : d < E.C.nt) (hg : S.gd ops o = some true) (hdf : isDefer o = false) (h : ∀ k, TR E draw ops Q rest ((S' k).put d (v k))) : TR E draw ops Q (.step o way rest) S := fun a w hS => by
  have hS0 := hS
  obtain ⟨β, hB⟩ := hS
  obtain ⟨x, β', k, h1, hB', h2⟩ := hq.out β a w hB
  have hput : ∀ w', Grows w w' → St E.C ((S' k).put d (v k)) (a.put o.dst x) w' := fun w' g => by
    rw [hdst]
    exact St.later ⟨β', hB'.put hd h2⟩ g
  cases draw with
  | true =>
    dsimp only
    cases way with
    | pure =>
      simp only [wpMix3]
      rw [Sd.gd_sound hS0 hg, if_pos rfl]
      exact ⟨x, fun w' => h1 w', h k _ _ (hput w (Grows.refl w))⟩
    | quiet =>
      simp only [wpMix3]
      rw [Sd.gd_sound hS0 hg, if_pos rfl]
      refine ⟨x, fun n => ?_, h k _ _ (hput w (Grows.refl w))⟩
      rw [h1 n.w]
      exact ⟨rfl, rfl⟩
    | grow =>
      simp only [wpMix3]
      intro n
      rw [Sd.gd_sound hS0 hg, if_pos rfl]
      exact wp_value (h1 n.w) ⟨Grows.refl _, h k _ _ (hput n.w n.grows)⟩
    | bar =>
      simp only [wpMix3]
      intro n
      rw [Sd.gd_sound hS0 hg, if_pos rfl]
      exact wp_value (h1 n.w) (h k _ _ (hput n.w n.grows))
  | false => exact listIn_of_wp hS0 hg hdf fun K hK => wp_value (h1 w) (hK _ _ (h k _ _ (hput w (Grows.refl w))))
section
variable {E : Set} {Q : Exit → Sd → Prop} {ops : Array Oper} {draw : Bool} {rest : Todo} {way : Way3} {ty : TypeId} {pos : String} {af : Array Edge} {gd : Option (Nat × Bool)} {dst : Option Tmp}
variable {env : List (Nat × V)} {H : List (Nat × Ob)} {gl : List (Nat × List D)} {d : Nat}
theorem tc_endsW {c : Code} {S : Sd} {P : Program} {rs : List ResultVar} {H0 : List (Nat × Ob)} {R : V → List (Nat × Ob) → Prop} (h : TC E c (EndsW E.C P rs H0 R) S) : TC E c (EndsE P rs H0 R) S :=
  fun a w hS => wpIn_mono (h a w hS) fun _ a w ⟨_, hS', ⟨S2, h1, h2⟩⟩ => ⟨S2, h1 a w hS', h2⟩
theorem endsW {C : Ctx} {S S' : Sd} {P : Program} {rs : List ResultVar} {H0 : List (Nat × Ob)} {R : V → List (Nat × Ob) → Prop} {e : Exit} (hw : Wk C S S') (h : EndsE P rs H0 R e S') : EndsW C P rs H0 R e S := ⟨S', hw, h⟩
theorem y_endn {P : Program} {H0 H1 : List (Nat × Ob)} {R : V → List (Nat × Ob) → Prop} {S : Sd} (hr : R (.tup []) H1) (hsub : Sub S.H H1 := by (repeat (first | exact Sub.nil | apply Sub.cons rfl)); fail_if_success intros) (hok : endOk H0 H1 (.tup []) = true := by rfl) : EndsE P [] H0 R .normal S := EndsE.mk (.inr rfl) ⟨[], _, ResE.nil, hsub, hok, hr⟩
end
end
section
section
variable {E : Set} {S : Sd} {dst : Option Tmp} {ty : TypeId} {pos : String} {af : Array Edge} {gd : Option (Nat × Bool)}
end
section
variable {E : Set} {Q : Exit → Sd → Prop} {env : List (Nat × V)} {H : List (Nat × Ob)} {gl : List (Nat × List D)}
end
end
section
section
variable {E : Set} {S : Sd} {Q : Exit → Sd → Prop} {ops : Array Oper} {draw : Bool} {rest : Todo} {way : Way3} {ty : TypeId} {pos : String} {af : Array Edge} {gd : Option (Nat × Bool)}
end
end
section
section
variable {E : Set} {Q : Exit → Sd → Prop}
def Rounds (E : Set) (c : Code) (Q : Exit → Sd → Prop) : Nat → Sd → Prop
  | 0, _ => False
  | m + 1, S => TC E c (Exit.thenD (Rounds E c Q m) Q) S
theorem rounds_in {c : Code} : ∀ (m : Nat) (S : Sd), Rounds E c Q m S → ∀ a w, St E.C S a w → Code.roundsIn (WF E.rd) 0 E.P c (Qof E.C Q) m a w
  | 0, _, h, _, _, _ => h.elim
  | m + 1, S, h, a, w, hS => by
    rw [roundsIn_succ]
    refine wpIn_mono (h a w hS) fun e a' w' ⟨S', h1, h2⟩ => ?_
    cases e
    case normal => exact rounds_in m S' h2 a' w' h1
    all_goals exact ⟨S', h1, h2⟩
theorem tc_rounds {c : Code} {S : Sd} (m : Nat) (h : Rounds E c Q m S) : TC E (.loop c) Q S := fun a w hS => wpIn_loop_rounds m (rounds_in m S h a w hS)
theorem rounds_next {c : Code} {m : Nat} {S : Sd} (h : ∀ K : Sd → Prop, (∀ S, Rounds E c Q m S → K S) → TC E c (Exit.thenD K Q) S) : Rounds E c Q (m + 1) S := h _ fun _ h => h
end
section
variable {E : Set} {dst : Option Tmp} {ty : TypeId} {pos : String} {af : Array Edge} {gd : Option (Nat × Bool)}
theorem run_slice3 {P : Program} {t e sz : Nat} (ht : TSlice P t e sz) (a : Option Addr) (n c l m x : Nat) (k k' k'' : IntKind) (h1 : l ≤ m) (h2 : m ≤ x) (h3 : x ≤ c) (w : World) :
    (Instr.slice t (.slice a n c) (some (.int k (l : Nat))) (some (.int k' (m : Nat))) (some (.int k'' (x : Nat)))).run P w = .ok (.slice (if x = l then a else a.map (·.add (l * sz))) (m - l) (x - l)) w := by
  obtain ⟨ie, hu, hie, hs, hpos⟩ := slice_parts ht
  have hb : (Instr.sliceBounds true n c (some (.int k (l : Nat))) (some (.int k' (m : Nat))) (some (.int k'' (x : Nat)))).run P w = .ok (l, m, x) w := by
    have e1 : (l : Int) ≤ (m : Int) := by omega
    have e2 : (m : Int) ≤ (x : Int) := by omega
    have e3 : (x : Int) ≤ (c : Int) := by omega
    simp [Instr.sliceBounds, Instr.sliceBound, asIntOf, show ¬ m < l by omega, show ¬ x < m by omega, show ¬ c < x by omega, h1, h2, h3]
  simp [run_underlying hu, Instr.slice, hb, run_size hie, hs]
theorem q_slice3 {S : Sd} {t e sz n k p m e' : Nat} {sh : Bool} {xs : List D} {x lo hi mx : Operand} {k1 k2 k3 : IntKind} {v1 v2 v3 : Int} [ht : TSlice E.P t e sz] (hx : S.ev x = some (.own n k)) (hox : okOp x = true) (hl : look n S.H = some (.row e' sz sh xs k))
    (hlo : S.ev lo = some (.d (.int k1 v1))) (hol : okOp lo = true) (hhi : S.ev hi = some (.d (.int k2 v2))) (hoh : okOp hi = true) (hmx : S.ev mx = some (.d (.int k3 v3))) (hom : okOp mx = true) (e1 : v1 = (p : Nat)) (e2 : v2 = ((p + m : Nat) : Int)) (e3 : v3 = ((p + m : Nat) : Int)) (hle : p + m ≤ xs.length) :
    Swift E S ⟨dst, .slice t x (some lo) (some hi) (some mx), ty, pos, af, gd⟩ (.win n k p m) := Swift.mk fun β a w h => by
  subst e1 e2 e3
  obtain ⟨ad, c, h4, h5, h6, h7⟩ := h.row_shape hl
  have hv : a.eval x = (β n).v := h.ev hx hox e' sz sh xs hl
  have g1 : a.eval lo = .int k1 (p : Nat) := h.ev hlo hol
  have g2 : a.eval hi = .int k2 ((p + m : Nat) : Int) := h.ev hhi hoh
  have g3 : a.eval mx = .int k3 ((p + m : Nat) : Int) := h.ev hmx hom
  refine ⟨.slice (if p + m = p then ad else ad.map (·.add (p * sz))) (p + m - p) (p + m - p), fun w' _ => ?_, fun e2 sz2 sh2 xs2 hl2 => ?_⟩
  · have := run_slice3 (P := E.P) ht ad xs.length c p (p + m) (p + m) k1 k2 k3 (by omega) (Nat.le_refl _) (by omega) w'
    obtain ⟨ie, hu, _⟩ := slice_parts ht
    rw [Int.natCast_add] at this g2 g3
    simp [execOp, Instr.sliceAt, hv, h4, g1, g2, g3, this, run_underlying hu]
  · rw [hl] at hl2
    cases hl2
    refine ⟨ad, xs.length, c, _, _, h4, hle, by rw [Nat.add_sub_cancel_left], Nat.le_of_eq (by omega), fun hne => ?_⟩
    rw [if_neg (by omega)]
theorem q_len_win {S : Sd} {t e sz n k p m e' sz' : Nat} {sh : Bool} {xs : List D} {x : Operand} [ht : TSlice E.P t e sz] (hx : S.ev x = some (.win n k p m)) (hox : okOp x = true) (hl : look n S.H = some (.row e' sz' sh xs k)) : Swift E S ⟨dst, .call { callee := .builtin .len, args := #[x], argTypes := #[t] }, ty, pos, af, gd⟩ (.d (.int .i64 (m : Nat))) := Swift.mk fun β a w h => by
  obtain ⟨ie, hu, _⟩ := slice_parts ht
  obtain ⟨ad, ll, c, ad1, c1, h1, h2, h3, _⟩ := h.ev hx hox e' sz' sh xs hl
  refine ⟨.int .i64 (m : Int), fun w' _ => ?_, rfl⟩
  simp [execOp, resolve, invoke, builtin, h3, Builtin.len_, goInt, run_underlying hu]
theorem q_index_win {S : Sd} {t e sz i n k' e' p m : Nat} {sh : Bool} {x y : Operand} {xs : List D} {k : IntKind} {v : Int} [ht : TSlice E.P t e sz] (hx : S.ev x = some (.win n k' p m)) (hl : look n S.H = some (.row e' sz sh xs k')) (hy : S.ev y = some (.d (.int k v))) (hox : okOp x = true) (hoy : okOp y = true) (hi : v = (i : Nat)) (hz : i < m) :
    Swift E S ⟨dst, .indexAddr t x y, ty, pos, af, gd⟩ (.el n k' (p + i) 0) := Swift.mk fun β a w h => by
  subst hi
  obtain ⟨ad, ll, c, ad1, c1, h1, h2, h3, h3', h4⟩ := h.ev hx hox e' sz sh xs hl
  obtain ⟨ys, h2', _⟩ := h.obs n _ hl
  have h5 : a.eval y = .int k (i : Nat) := h.ev hy hoy
  rcases h2'.2 with ⟨q1, q2⟩ | ⟨g, cap, cur, q, _, _, q3, _⟩
  · rw [h1] at q1
    simp only [Value.slice.injEq] at q1
    omega
  · rw [h1] at q
    simp only [Value.slice.injEq] at q
    obtain ⟨rfl, rfl, rfl⟩ := q
    have h6 : a.eval x = .slice (some ⟨g, p * sz, none⟩) m c1 := by rw [h3, h4 (by omega)]; simp [add_flat]
    refine ⟨.pointer (some ⟨g, (p + i) * sz, none⟩), fun w' _ => ?_, fun e2 sz2 sh2 xs2 hl2 => ?_⟩
    · have := run_indexAt (P := E.P) ht (b := g) (o := p * sz) (n := m) (c := c1) (k := k) (i := i) hz w'
      rw [Nat.add_mul]
      simp [execOp, h6, h5, this]
    · rw [hl] at hl2
      cases hl2
      exact ⟨g, _, c, h1, rfl⟩
end
end
section
instance : TCell prog 3 := ⟨by kernel_rfl⟩
instance : TSize prog 3 1 := ⟨by kernel_rfl⟩
instance : TInt prog 3 .i64 := ⟨by kernel_rfl⟩
instance : TZero prog 3 [.d (.int .i64 0)] := ⟨by kernel_rfl⟩
instance : TCell prog 4 := ⟨by kernel_rfl⟩
instance : TSize prog 4 1 := ⟨by kernel_rfl⟩
instance : TCell prog 5 := ⟨by kernel_rfl⟩
instance : TSize prog 5 1 := ⟨by kernel_rfl⟩
instance : TInt prog 5 .u8 := ⟨by kernel_rfl⟩
instance : TStr prog 9 := ⟨by kernel_rfl⟩
instance : TCell prog 21 := ⟨by kernel_rfl⟩
instance : TSize prog 21 1 := ⟨by kernel_rfl⟩
instance : TInt prog 21 .i32 := ⟨by kernel_rfl⟩
instance : TCell prog 23 := ⟨by kernel_rfl⟩
instance : TSize prog 23 1 := ⟨by kernel_rfl⟩
instance : TSlice prog 23 5 1 := ⟨by kernel_rfl⟩
instance : TCell prog 25 := ⟨by kernel_rfl⟩
instance : TSize prog 25 1 := ⟨by kernel_rfl⟩
instance : TCell prog 29 := ⟨by kernel_rfl⟩
instance : TSize prog 29 1 := ⟨by kernel_rfl⟩
instance : TInt prog 29 .u16 := ⟨by kernel_rfl⟩
instance : TAgg prog 31 7 := ⟨by kernel_rfl⟩
instance : TSize prog 31 7 := ⟨by kernel_rfl⟩
instance : TStruct prog 31 := ⟨by kernel_rfl⟩
instance : TField prog 31 0 0 29 := ⟨by kernel_rfl⟩
instance : TField prog 31 1 1 3 := ⟨by kernel_rfl⟩
instance : TField prog 31 2 2 4 := ⟨by kernel_rfl⟩
instance : TField prog 31 3 3 4 := ⟨by kernel_rfl⟩
instance : TField prog 31 4 4 5 := ⟨by kernel_rfl⟩
instance : TField prog 31 5 5 3 := ⟨by kernel_rfl⟩
instance : TField prog 31 6 6 29 := ⟨by kernel_rfl⟩
instance : TEq prog 31 [1, 1, 0, 0, 1, 1, 1] := ⟨by kernel_rfl⟩
instance : TZero prog 31 [.d (.int .u16 0), .d (.int .i64 0), .d (.bool false), .d (.bool false), .d (.int .u8 0), .d (.int .i64 0), .d (.int .u16 0)] := ⟨by kernel_rfl⟩
instance : TAgg prog 45 2 := ⟨by kernel_rfl⟩
instance : TArray prog 45 2 21 1 := ⟨by kernel_rfl⟩
instance : TZero prog 45 [.d (.int .i32 0), .d (.int .i32 0)] := ⟨by kernel_rfl⟩
instance : TAgg prog 49 28 := ⟨by kernel_rfl⟩
instance : TField prog 49 6 6 4 := ⟨by kernel_rfl⟩
instance : TField prog 49 9 9 4 := ⟨by kernel_rfl⟩
instance : TField prog 49 10 10 45 := ⟨by kernel_rfl⟩
instance : TField prog 49 11 12 45 := ⟨by kernel_rfl⟩
instance : TField prog 49 12 14 45 := ⟨by kernel_rfl⟩
instance : TField prog 51 0 0 49 := ⟨by kernel_rfl⟩
instance : TField prog 51 1 28 23 := ⟨by kernel_rfl⟩
instance : TAgg prog 53 7 := ⟨by kernel_rfl⟩
instance : TSize prog 53 7 := ⟨by kernel_rfl⟩
instance : TStruct prog 53 := ⟨by kernel_rfl⟩
instance : TField prog 53 0 0 21 := ⟨by kernel_rfl⟩
instance : TField prog 53 4 4 4 := ⟨by kernel_rfl⟩
instance : TField prog 53 5 5 4 := ⟨by kernel_rfl⟩
instance : TField prog 53 6 6 5 := ⟨by kernel_rfl⟩
instance : TZero prog 53 [.d (.int .i32 0), .d (.int .i32 0), .d (.int .i32 0), .d (.int .i32 0), .d (.bool false), .d (.bool false), .d (.int .u8 0)] := ⟨by kernel_rfl⟩
instance : TAgg prog 55 21 := ⟨by kernel_rfl⟩
instance : TSize prog 55 21 := ⟨by kernel_rfl⟩
instance : TStruct prog 55 := ⟨by kernel_rfl⟩
instance : TField prog 55 0 0 53 := ⟨by kernel_rfl⟩
instance : TField prog 55 1 7 53 := ⟨by kernel_rfl⟩
instance : TField prog 55 2 14 31 := ⟨by kernel_rfl⟩
instance : TZero prog 55 [.d (.int .i32 0), .d (.int .i32 0), .d (.int .i32 0), .d (.int .i32 0), .d (.bool false), .d (.bool false), .d (.int .u8 0), .d (.int .i32 0), .d (.int .i32 0), .d (.int .i32 0), .d (.int .i32 0), .d (.bool false), .d (.bool false), .d (.int .u8 0), .d (.int .u16 0), .d (.int .i64 0), .d (.bool false), .d (.bool false), .d (.int .u8 0), .d (.int .i64 0), .d (.int .u16 0)] := ⟨by kernel_rfl⟩
instance : TAgg prog 56 84 := ⟨by kernel_rfl⟩
instance : TArray prog 56 4 55 21 := ⟨by kernel_rfl⟩
instance : TSize prog 58 4 := ⟨by kernel_rfl⟩
instance : TStruct prog 58 := ⟨by kernel_rfl⟩
instance : TField prog 58 0 0 4 := ⟨by kernel_rfl⟩
instance : TField prog 58 1 1 3 := ⟨by kernel_rfl⟩
instance : TField prog 58 2 2 23 := ⟨by kernel_rfl⟩
instance : TField prog 58 3 3 23 := ⟨by kernel_rfl⟩
instance : TZero prog 58 [.d (.bool false), .d (.int .i64 0), .nils 1, .nils 1] := ⟨by kernel_rfl⟩
instance : TAgg prog 60 117 := ⟨by kernel_rfl⟩
instance : TSize prog 60 117 := ⟨by kernel_rfl⟩
instance : TStruct prog 60 := ⟨by kernel_rfl⟩
instance : TField prog 60 0 0 51 := ⟨by kernel_rfl⟩
instance : TField prog 60 1 29 56 := ⟨by kernel_rfl⟩
instance : TField prog 60 2 113 58 := ⟨by kernel_rfl⟩
instance : TCell prog 66 := ⟨by kernel_rfl⟩
instance : TSize prog 66 1 := ⟨by kernel_rfl⟩
instance : TCell prog 67 := ⟨by kernel_rfl⟩
instance : TSize prog 67 1 := ⟨by kernel_rfl⟩
instance : TSlice prog 67 144 5 := ⟨by kernel_rfl⟩
instance : TStruct prog 69 := ⟨by kernel_rfl⟩
instance : TField prog 69 0 0 49 := ⟨by kernel_rfl⟩
instance : TField prog 69 1 28 66 := ⟨by kernel_rfl⟩
instance : TField prog 69 2 29 56 := ⟨by kernel_rfl⟩
instance : TField prog 69 3 113 58 := ⟨by kernel_rfl⟩
instance : TField prog 69 4 117 67 := ⟨by kernel_rfl⟩
instance : TInt prog 77 .u32 := ⟨by kernel_rfl⟩
instance : TCell prog 78 := ⟨by kernel_rfl⟩
instance : TSize prog 78 1 := ⟨by kernel_rfl⟩
instance : TSlice prog 78 148 4 := ⟨by kernel_rfl⟩
instance : TAgg prog 80 2 := ⟨by kernel_rfl⟩
instance : TSize prog 80 2 := ⟨by kernel_rfl⟩
instance : TStruct prog 80 := ⟨by kernel_rfl⟩
instance : TField prog 80 0 0 3 := ⟨by kernel_rfl⟩
instance : TField prog 80 1 1 3 := ⟨by kernel_rfl⟩
instance : TEq prog 80 [1, 1] := ⟨by kernel_rfl⟩
instance : TZero prog 80 [.d (.int .i64 0), .d (.int .i64 0)] := ⟨by kernel_rfl⟩
instance : TAgg prog 82 4 := ⟨by kernel_rfl⟩
instance : TSize prog 82 4 := ⟨by kernel_rfl⟩
instance : TStruct prog 82 := ⟨by kernel_rfl⟩
instance : TField prog 82 0 0 3 := ⟨by kernel_rfl⟩
instance : TField prog 82 1 1 78 := ⟨by kernel_rfl⟩
instance : TField prog 82 2 2 80 := ⟨by kernel_rfl⟩
instance : TZero prog 82 [.d (.int .i64 0), .nils 4, .d (.int .i64 0), .d (.int .i64 0)] := ⟨by kernel_rfl⟩
instance : TCell prog 83 := ⟨by kernel_rfl⟩
instance : TSize prog 83 1 := ⟨by kernel_rfl⟩
instance : TSlice prog 83 25 1 := ⟨by kernel_rfl⟩
instance : TCell prog 84 := ⟨by kernel_rfl⟩
instance : TSize prog 84 1 := ⟨by kernel_rfl⟩
instance : TCell prog 85 := ⟨by kernel_rfl⟩
instance : TSize prog 85 1 := ⟨by kernel_rfl⟩
instance : TSlice prog 85 139 2 := ⟨by kernel_rfl⟩
instance : TStruct prog 87 := ⟨by kernel_rfl⟩
instance : TField prog 87 0 0 82 := ⟨by kernel_rfl⟩
instance : TField prog 87 1 4 83 := ⟨by kernel_rfl⟩
instance : TField prog 87 2 5 84 := ⟨by kernel_rfl⟩
instance : TField prog 87 3 6 85 := ⟨by kernel_rfl⟩
instance : TField prog 87 4 7 21 := ⟨by kernel_rfl⟩
instance : TZero prog 87 [.d (.int .i64 0), .nils 4, .d (.int .i64 0), .d (.int .i64 0), .nils 1, .d (.raw (.pointer none)), .nils 2, .d (.int .i32 0)] := ⟨by kernel_rfl⟩
instance : TCell prog 88 := ⟨by kernel_rfl⟩
instance : TSize prog 88 1 := ⟨by kernel_rfl⟩
instance : TZero prog 88 [.d (.raw (.pointer none))] := ⟨by kernel_rfl⟩
instance : TSlice prog 89 88 1 := ⟨by kernel_rfl⟩
instance : TCell prog 104 := ⟨by kernel_rfl⟩
instance : TSize prog 104 1 := ⟨by kernel_rfl⟩
instance : TSlice prog 104 3 1 := ⟨by kernel_rfl⟩
instance : TZero prog 104 [.nils 1] := ⟨by kernel_rfl⟩
instance : TCell prog 119 := ⟨by kernel_rfl⟩
instance : TSize prog 119 1 := ⟨by kernel_rfl⟩
instance : TAgg prog 121 2 := ⟨by kernel_rfl⟩
instance : TSize prog 121 2 := ⟨by kernel_rfl⟩
instance : TStruct prog 121 := ⟨by kernel_rfl⟩
instance : TField prog 121 0 0 119 := ⟨by kernel_rfl⟩
instance : TField prog 121 1 1 5 := ⟨by kernel_rfl⟩
instance : TZero prog 121 [.d (.int .u8 0), .d (.int .u8 0)] := ⟨by kernel_rfl⟩
instance : TCell prog 128 := ⟨by kernel_rfl⟩
instance : TSize prog 128 1 := ⟨by kernel_rfl⟩
instance : TStruct prog 135 := ⟨by kernel_rfl⟩
instance : TField prog 135 0 0 31 := ⟨by kernel_rfl⟩
instance : TField prog 135 1 7 23 := ⟨by kernel_rfl⟩
instance : TField prog 135 2 8 23 := ⟨by kernel_rfl⟩
instance : TField prog 135 3 9 4 := ⟨by kernel_rfl⟩
instance : TZero prog 135 [.d (.int .u16 0), .d (.int .i64 0), .d (.bool false), .d (.bool false), .d (.int .u8 0), .d (.int .i64 0), .d (.int .u16 0), .nils 1, .nils 1, .d (.bool false)] := ⟨by kernel_rfl⟩
instance : TCell prog 138 := ⟨by kernel_rfl⟩
instance : TArray prog 139 2 138 1 := ⟨by kernel_rfl⟩
instance : TAgg prog 144 5 := ⟨by kernel_rfl⟩
instance : TSize prog 144 5 := ⟨by kernel_rfl⟩
instance : TStruct prog 144 := ⟨by kernel_rfl⟩
instance : TField prog 144 0 0 21 := ⟨by kernel_rfl⟩
instance : TField prog 144 1 1 3 := ⟨by kernel_rfl⟩
instance : TField prog 144 2 2 128 := ⟨by kernel_rfl⟩
instance : TField prog 144 3 3 21 := ⟨by kernel_rfl⟩
instance : TField prog 144 4 4 21 := ⟨by kernel_rfl⟩
instance : TZero prog 144 [.d (.int .i32 0), .d (.int .i64 0), .d (.int .u8 0), .d (.int .i32 0), .d (.int .i32 0)] := ⟨by kernel_rfl⟩
instance : TAgg prog 148 4 := ⟨by kernel_rfl⟩
instance : TSize prog 148 4 := ⟨by kernel_rfl⟩
instance : TField prog 148 0 0 80 := ⟨by kernel_rfl⟩
instance : TField prog 148 1 2 80 := ⟨by kernel_rfl⟩
instance : TZero prog 148 [.d (.int .i64 0), .d (.int .i64 0), .d (.int .i64 0), .d (.int .i64 0)] := ⟨by kernel_rfl⟩
instance : TStruct prog 150 := ⟨by kernel_rfl⟩
instance : TField prog 150 0 0 25 := ⟨by kernel_rfl⟩
instance : TField prog 150 1 1 3 := ⟨by kernel_rfl⟩
instance : TField prog 150 2 2 3 := ⟨by kernel_rfl⟩
instance : TZero prog 150 [.d (.raw (.pointer none)), .d (.int .i64 0), .d (.int .i64 0)] := ⟨by kernel_rfl⟩
instance : TStruct prog 156 := ⟨by kernel_rfl⟩
instance : TField prog 156 0 0 23 := ⟨by kernel_rfl⟩
instance : TZero prog 156 [.nils 1] := ⟨by kernel_rfl⟩
instance : TSlice prog 162 55 21 := ⟨by kernel_rfl⟩
instance : TCell prog 179 := ⟨by kernel_rfl⟩
instance : TCell prog 235 := ⟨by kernel_rfl⟩
instance : TSize prog 235 1 := ⟨by kernel_rfl⟩
instance : TStruct prog 237 := ⟨by kernel_rfl⟩
instance : TField prog 237 0 0 82 := ⟨by kernel_rfl⟩
instance : TField prog 237 1 4 235 := ⟨by kernel_rfl⟩
instance : TZero prog 237 [.d (.int .i64 0), .nils 4, .d (.int .i64 0), .d (.int .i64 0), .d (.raw (.map none))] := ⟨by kernel_rfl⟩
instance : TSize prog 276 8 := ⟨by kernel_rfl⟩
instance : TArray prog 276 8 4 1 := ⟨by kernel_rfl⟩
instance : TZero prog 276 [.d (.bool false), .d (.bool false), .d (.bool false), .d (.bool false), .d (.bool false), .d (.bool false), .d (.bool false), .d (.bool false)] := ⟨by kernel_rfl⟩
instance : TSlice prog 277 80 2 := ⟨by kernel_rfl⟩
instance : TZeroD prog 5 (.int .u8 0) := ⟨by kernel_rfl⟩
instance : TZeroD prog 3 (.int .i64 0) := ⟨by kernel_rfl⟩
instance : TMap prog 235 80 80 := ⟨by kernel_rfl⟩
instance : TKey prog 80 (.agg [1, 1]) := ⟨by kernel_rfl⟩
instance : TZeroD prog 80 (.agg [.int .i64 0, .int .i64 0]) := ⟨by kernel_rfl⟩
instance : TZeroV prog 80 (.d (.agg [.int .i64 0, .int .i64 0])) := ⟨by kernel_rfl⟩
instance : TFun prog 8 := ⟨by kernel_rfl⟩
instance : TFun prog 16 := ⟨by kernel_rfl⟩
instance : TFun prog 17 := ⟨by kernel_rfl⟩
instance : TFun prog 18 := ⟨by kernel_rfl⟩
instance : TFun prog 19 := ⟨by kernel_rfl⟩
instance : TFun prog 20 := ⟨by kernel_rfl⟩
instance : TFun prog 22 := ⟨by kernel_rfl⟩
instance : TFun prog 23 := ⟨by kernel_rfl⟩
instance : TFun prog 24 := ⟨by kernel_rfl⟩
instance : TFun prog 25 := ⟨by kernel_rfl⟩
instance : TFun prog 26 := ⟨by kernel_rfl⟩
instance : TFun prog 27 := ⟨by kernel_rfl⟩
instance : TFun prog 28 := ⟨by kernel_rfl⟩
instance : TFun prog 29 := ⟨by kernel_rfl⟩
instance : TFun prog 30 := ⟨by kernel_rfl⟩
instance : TFun prog 31 := ⟨by kernel_rfl⟩
instance : TFun prog 36 := ⟨by kernel_rfl⟩
instance : TFun prog 37 := ⟨by kernel_rfl⟩
instance : TFun prog 46 := ⟨by kernel_rfl⟩
instance : TFun prog 48 := ⟨by kernel_rfl⟩
instance : TFun prog 49 := ⟨by kernel_rfl⟩
instance : TFun prog 50 := ⟨by kernel_rfl⟩
instance : TFun prog 51 := ⟨by kernel_rfl⟩
instance : TFun prog 52 := ⟨by kernel_rfl⟩
instance : TFun prog 53 := ⟨by kernel_rfl⟩
instance : TFun prog 59 := ⟨by kernel_rfl⟩
instance : TFun prog 60 := ⟨by kernel_rfl⟩
instance : TFun prog 61 := ⟨by kernel_rfl⟩
instance : TFun prog 62 := ⟨by kernel_rfl⟩
instance : TFun prog 63 := ⟨by kernel_rfl⟩
instance : TFun prog 64 := ⟨by kernel_rfl⟩
instance : TFun prog 65 := ⟨by kernel_rfl⟩
instance : TFun prog 66 := ⟨by kernel_rfl⟩
instance : TFun prog 67 := ⟨by kernel_rfl⟩
instance : TFun prog 71 := ⟨by kernel_rfl⟩
instance : TFun prog 74 := ⟨by kernel_rfl⟩
instance : TFun prog 75 := ⟨by kernel_rfl⟩
instance : TFun prog 76 := ⟨by kernel_rfl⟩
instance : TFun prog 77 := ⟨by kernel_rfl⟩
instance : TFun prog 78 := ⟨by kernel_rfl⟩
instance : TFun prog 79 := ⟨by kernel_rfl⟩
instance : TFun prog 80 := ⟨by kernel_rfl⟩
instance : TFun prog 81 := ⟨by kernel_rfl⟩
instance : TFun prog 93 := ⟨by kernel_rfl⟩
instance : TFun prog 94 := ⟨by kernel_rfl⟩
instance : TFun prog 95 := ⟨by kernel_rfl⟩
instance : TFun prog 99 := ⟨by kernel_rfl⟩
instance : TFun prog 100 := ⟨by kernel_rfl⟩
instance : TFun prog 101 := ⟨by kernel_rfl⟩
instance : TFun prog 102 := ⟨by kernel_rfl⟩
instance : TFun prog 103 := ⟨by kernel_rfl⟩
instance : TFun prog 121 := ⟨by kernel_rfl⟩
instance : TFun prog 127 := ⟨by kernel_rfl⟩
instance : TFun prog 128 := ⟨by kernel_rfl⟩
instance : TFun prog 129 := ⟨by kernel_rfl⟩
instance : TFun prog 153 := ⟨by kernel_rfl⟩
instance : TFun prog 154 := ⟨by kernel_rfl⟩
instance : TFun prog 171 := ⟨by kernel_rfl⟩
instance : TFun prog 329 := ⟨by kernel_rfl⟩
instance : TFun prog 330 := ⟨by kernel_rfl⟩
instance : TFun prog 331 := ⟨by kernel_rfl⟩
instance : TFun prog 332 := ⟨by kernel_rfl⟩
instance : TFun prog 333 := ⟨by kernel_rfl⟩
instance : TFun prog 334 := ⟨by kernel_rfl⟩
theorem mixed : prog.follows .mixedOrders = true := by kernel_rfl
instance : TMixed prog := ⟨mixed⟩
end
section
def isPtrT (P : Program) (t : TypeId) : Bool := match P.underlying t with | some (.pointer _) => true | _ => false
inductive PtrIs : V → Bool → Prop
  | ptr (n off : Nat) : PtrIs (.ptr n off) false
  | ref (cs : List D) (off : Nat) : PtrIs (.d (.ref cs off)) false
  | nil : PtrIs (.d (.raw (.pointer none))) true
section
variable {E : Set} {S : Sd} {dst : Option Tmp} {ty : TypeId} {pos : String} {af : Array Edge} {gd : Option (Nat × Bool)}
theorem PtrIs.rep {w : World} {M : Nat → Nat → Prop} {β : Nat → Hd} {H : List (Nat × Ob)} {v : V} {b : Bool} (h : PtrIs v b) {x : Value} (hx : RepV w M β H v x) : ∃ p, x = .pointer p ∧ p.isNone = b := by
  cases h with
  | ptr n off => obtain ⟨q, _, rfl⟩ := hx; exact ⟨_, rfl, rfl⟩
  | ref cs off => obtain ⟨q, o, vs, rfl, _⟩ := hx; exact ⟨_, rfl, rfl⟩
  | nil => obtain ⟨rfl, _⟩ := hx; exact ⟨_, rfl, rfl⟩
theorem run_eq_nil {P : Program} {xt : TypeId} (hu : isPtrT P xt = true) (p : Option Addr) (w : World) : (Op.equal xt (.pointer p) (.pointer none)).run P w = .ok p.isNone w := by
  unfold isPtrT at hu
  split at hu
  · rename_i e he
    unfold Op.equal
    rw [show Op.maxDepth = 9999 + 1 from rfl, Op.equalIn]
    simp only [Sem.run_bind, run_underlying he, Result.andThen_ok]
    cases p <;> rfl
  · cases hu
theorem q_nil_eql {xt yt : TypeId} {x y : Operand} {v : V} {b : Bool} (hu : isPtrT E.P xt = true) (hx : S.ev x = some v) (hp : PtrIs v b) (hy : S.ev y = some (.d (.raw (.pointer none)))) (hox : okOp x = true) (hoy : okOp y = true) :
    Swift E S ⟨dst, .binOp .eql xt x y yt, ty, pos, af, gd⟩ (.d (.bool b)) := Swift.mk fun β a w h => by
  obtain ⟨p, h1, h3⟩ := hp.rep (h.ev hx hox)
  have h2 : a.eval y = .pointer none := (h.ev hy hoy).1
  refine ⟨.bool b, fun w' _ => ?_, rfl⟩
  have he := run_eq_nil hu p w'
  rw [h3] at he
  have hb : (binOp .eql xt (.pointer p) (.pointer none)).run E.P w' = .ok (.bool b) w' := by
    show (do pure (Value.bool (← Op.equal xt (.pointer p) (.pointer none))) : Sem Value).run E.P w' = _
    simp only [Sem.run_bind, he, Result.andThen_ok, Sem.run_pure]
  simp [execOp, h1, h2, eqGuard, hb]
end
section
variable {E : Set} {Q : Exit → Sd → Prop} {ops : Array Oper} {draw : Bool} {rest : Todo} {way : Way3} {ty : TypeId} {pos : String} {af : Array Edge} {gd : Option (Nat × Bool)}
variable {env : List (Nat × V)} {H : List (Nat × Ob)} {gl : List (Nat × List D)} {d : Nat}
theorem wk_slot {C : Ctx} (t : Nat) {v : V} {x : D} (hl : look t env = some v) (hd : ToD H v x) : Wk C ⟨env, H, gl⟩ ⟨(t, .d x) :: env, H, gl⟩ := fun a w ⟨β, h⟩ => by
  refine ⟨β, { h with env := ?_ }⟩
  intro s u hs
  dsimp only at hs
  rw [look_cons] at hs
  split at hs
  · rename_i e
    subst e
    cases hs
    obtain ⟨y, h1, h2⟩ := h.env _ _ hl
    exact ⟨y, h1, hd.rep h h2⟩
  · exact h.env s u hs
end
end
end Go.Proofs.YtjhbglklcddekaaGreatDoor
