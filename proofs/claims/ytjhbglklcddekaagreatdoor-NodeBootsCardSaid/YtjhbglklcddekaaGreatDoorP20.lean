/- Parts: D31, D32. -/
import Derived.Test.YtjhbglklcddekaaGreatDoorP19
set_option linter.all false
set_option maxRecDepth 100000
set_option maxHeartbeats 16000000
namespace Go.Proofs.YtjhbglklcddekaaGreatDoor
open Go.RowKit
section
theorem StB.recast {C : Ctx} {β β' : Nat → Hd} {S : Sd} {a : Act} {w : World} (h : StB C β S a w) {H' : List (Nat × Ob)} (n q : Nat)
    (hold : ∀ m ob, m ≠ n → m ≠ q → look m H' = some ob → look m S.H = some ob) (hβ : ∀ m, m ≠ n → m ≠ q → β' m = β m) (hn : (β' n).v = (β n).v) (hnr : ∀ e sz sh xs k, look n H' ≠ some (.row e sz sh xs k)) (hq : S.fresh q = true ∨ (look q H' = none ∧ β' q = β q))
    (hown : ∀ m ob b o, m = n ∨ m = q → look m H' = some ob → own (β' m) ob b → (∃ m0 ob0, (m0 = n ∨ m0 = q) ∧ look m0 S.H = some ob0 ∧ own (β m0) ob0 b ∧ (ob.mut o → ob0.mut o)))
    (hap : ∀ b ob ob', n ≠ q → look n H' = some ob → look q H' = some ob' → own (β' n) ob b → ¬ own (β' q) ob' b)
    (hobs : Keeps w (Mut C.M0 β S.H) w (Mut C.M0 β' H') → (∀ x v, x.says q = false → RepV w (Mut C.M0 β S.H) β S.H x v → RepV w (Mut C.M0 β' H') β' H' x v) → (∀ xs vs, saysL q xs = false → RepL w (Mut C.M0 β S.H) β S.H xs vs → RepL w (Mut C.M0 β' H') β' H' xs vs) → ∀ m ob, n = m ∨ q = m → look m H' = some ob → RepO w (Mut C.M0 β' H') β' H' (β' m) ob)
    (hN : ∀ m ∈ C.N, (look m H').isSome = true) : StB C β' { S with H := H' } a w := by
  have hsn : ∀ m, m ≠ q → V.SameNames β β' S.H H' m := fun m hm => by
    by_cases hmn : m = n
    · subst hmn
      exact ⟨hn, fun e sz sh xs k hl => absurd hl (hnr _ _ _ _ _)⟩
    · exact ⟨congrArg Hd.v (hβ m hmn hm), fun e sz sh xs k hl => ⟨sh, xs, hold m _ hmn hm hl⟩⟩
  have hmut : ∀ b o, Mut C.M0 β' H' b o → Mut C.M0 β S.H b o := fun b o hm => by
    rcases hm with hm | ⟨m, ob, h1, h2, h3⟩
    · exact .inl hm
    · by_cases hmn : m = n ∨ m = q
      · obtain ⟨m0, ob0, _, h5, h6, h7⟩ := hown m ob b o hmn h1 h2
        exact .inr ⟨m0, ob0, h5, h6, h7 h3⟩
      · simp only [not_or] at hmn
        rw [hβ m hmn.1 hmn.2] at h2
        exact .inr ⟨m, ob, hold m ob hmn.1 hmn.2 h1, h2, h3⟩
  have k : Keeps w (Mut C.M0 β S.H) w (Mut C.M0 β' H') := Keeps.weak hmut
  have hq' : ∀ x : V, x.says q = false ∨ (look q H' = none ∧ β' q = β q) → ∀ m, x.says m = true → V.SameNames β β' S.H H' m := fun x hx m hm => by
    by_cases hmq : m = q
    · subst hmq
      rcases hx with hx | ⟨hx, hx'⟩
      · rw [hx] at hm; cases hm
      · exact ⟨congrArg Hd.v hx', fun e sz sh xs k hl => by rw [hx] at hl; cases hl⟩
    · exact hsn m hmq
  have hqL : ∀ xs : List V, saysL q xs = false ∨ (look q H' = none ∧ β' q = β q) → ∀ m, saysL m xs = true → V.SameNames β β' S.H H' m := fun x hx m hm => by
    by_cases hmq : m = q
    · subst hmq
      rcases hx with hx | ⟨hx, hx'⟩
      · rw [hx] at hm; cases hm
      · exact ⟨congrArg Hd.v hx', fun e sz sh xs k hl => by rw [hx] at hl; cases hl⟩
    · exact hsn m hmq
  have pl : ∀ m ob b, look m H' = some ob → own (β' m) ob b → ∃ m0 ob0, look m0 S.H = some ob0 ∧ own (β m0) ob0 b := fun m ob b h1 h2 => by
    by_cases hmn : m = n ∨ m = q
    · obtain ⟨m0, ob0, _, h5, h6, _⟩ := hown m ob b 0 hmn h1 h2
      exact ⟨m0, ob0, h5, h6⟩
    · simp only [not_or] at hmn
      rw [hβ m hmn.1 hmn.2] at h2
      exact ⟨m, ob, hold m ob hmn.1 hmn.2 h1, h2⟩
  refine ⟨h.size, h.small, h.defers, h.sys, fun t v hl => ?_, fun m ob hl => ?_, fun m m' b ob ob' hne h1 h2 h3 h4 => ?_, fun m ob b hl h1 => ?_, fun g cs hl => (h.glob g cs hl).keep k, h.frame, fun m ob b o hl h1 => ?_, h.low, fun m hm => ?_, hN⟩
  · obtain ⟨u, h1, h2⟩ := h.env t v hl
    refine ⟨u, h1, RepV.gen k v u (hq' v ?_) h2⟩
    rcases hq with hq | hq
    · simp only [Sd.fresh, Bool.and_eq_true] at hq
      exact .inl (noneSays_look hq.1 hl)
    · exact .inr hq
  · by_cases hmn : m = n ∨ m = q
    · refine hobs k (fun x v hx hr => RepV.gen k x v (hq' x (.inl hx)) hr) (fun x v hx hr => RepL.gen k x v (hqL x (.inl hx)) hr) m ob (hmn.imp Eq.symm Eq.symm) hl
    · simp only [not_or] at hmn
      rw [hβ m hmn.1 hmn.2]
      have hl0 := hold m ob hmn.1 hmn.2 hl
      refine RepO.keep k (fun _ _ => rfl) (fun vs hL => RepL.gen k _ vs (hqL _ ?_) hL) (h.obs m ob hl0)
      rcases hq with hq | hq
      · simp only [Sd.fresh, Bool.and_eq_true] at hq
        exact .inl (noneSaysO_look hq.2 hl0).2
      · exact .inr hq
  · have key : ∀ m m' ob ob', m ≠ m' → (m = n ∨ m = q) → ¬ (m' = n ∨ m' = q) → look m H' = some ob → look m' H' = some ob' → own (β' m) ob b → own (β' m') ob' b → False := fun m m' ob ob' hne hm hm' h1 h2 h3 h4 => by
      obtain ⟨m0, ob0, h5, h6, h7, _⟩ := hown m ob b 0 hm h1 h3
      simp only [not_or] at hm'
      rw [hβ m' hm'.1 hm'.2] at h4
      refine h.apart m0 m' b ob0 ob' ?_ h6 (hold m' ob' hm'.1 hm'.2 h2) h7 h4
      rintro rfl
      rcases h5 with h5 | h5
      · exact hm'.1 h5
      · exact hm'.2 h5
    by_cases hm : m = n ∨ m = q
    · by_cases hm' : m' = n ∨ m' = q
      · rcases hm with rfl | rfl
        · rcases hm' with rfl | rfl
          · exact hne rfl
          · exact hap b ob ob' hne h1 h2 h3 h4
        · rcases hm' with rfl | rfl
          · exact hap b ob' ob (Ne.symm hne) h2 h1 h4 h3
          · exact hne rfl
      · exact key m m' ob ob' hne hm hm' h1 h2 h3 h4
    · by_cases hm' : m' = n ∨ m' = q
      · exact key m' m ob' ob (Ne.symm hne) hm' hm h2 h1 h4 h3
      · simp only [not_or] at hm hm'
        rw [hβ m hm.1 hm.2] at h3
        rw [hβ m' hm'.1 hm'.2] at h4
        exact h.apart m m' b ob ob' hne (hold m ob hm.1 hm.2 h1) (hold m' ob' hm'.1 hm'.2 h2) h3 h4
  · obtain ⟨m0, ob0, h5, h6⟩ := pl m ob b hl h1
    exact h.place m0 ob0 b h5 h6
  · obtain ⟨m0, ob0, h5, h6⟩ := pl m ob b hl h1
    exact h.out m0 ob0 b o h5 h6
  · by_cases hmq : m = q
    · subst hmq
      rcases hq with hq | hq
      · have := h.has m hm
        rw [Sd.fresh_none hq] at this
        cases this
      · rw [hq.2]
        exact h.fix m hm
    · by_cases hmn : m = n
      · subst hmn
        rw [hn]
        exact h.fix m hm
      · rw [hβ m hmn hmq]
        exact h.fix m hm
theorem row_shape0 {w : World} {e sz l : Nat} {v : Value} {ys : List Value} (h : w.ownsRow 0 e sz v l ys) : ∃ a c, v = .slice a l c := by
  obtain ⟨a, c, e, _⟩ := owns_shape h
  exact ⟨a, c, e⟩
section
variable {E : Set} {Q : Exit → Sd → Prop} {ops : Array Oper} {draw : Bool} {rest : Todo} {way : Way3} {ty : TypeId} {pos : String} {af : Array Edge} {gd : Option (Nat × Bool)} {dst : Option Tmp}
variable {env : List (Nat × V)} {H : List (Nat × Ob)} {gl : List (Nat × List D)} {d : Nat}
theorem StB.hboxOut {C : Ctx} {β : Nat → Hd} {S : Sd} {a : Act} {w : World} (h : StB C β S a w) {n q e sz i : Nat} {xs : List D} {cs : List V} (hl : look n S.H = some (.hbox e sz xs i cs)) (hq : S.fresh q = true) :
    ∃ β', StB C β' { S with H := (n, .box (cs.set i (.own q 0))) :: (q, .row e sz false xs 0) :: S.H } a w := by
  have hqn : n ≠ q := by
    rintro rfl
    rw [Sd.fresh_none hq] at hl
    cases hl
  obtain ⟨b, vs, u, t, ys, h1, h2, h3, h4, h5, h6, h7, h8⟩ := h.obs n _ hl
  have hbq : hb (β n).v = some b := by rw [h1]; rfl
  have hlq : ∀ m, look m ((n, Ob.box (cs.set i (.own q 0))) :: (q, Ob.row e sz false xs 0) :: S.H) = if n = m then some (.box (cs.set i (.own q 0))) else if q = m then some (.row e sz false xs 0) else look m S.H := fun m => by rw [look_cons, look_cons]
  refine ⟨fun m => if m = q then ⟨u, []⟩ else β m, h.recast n q (fun m ob hm hm' hl' => ?_) (fun m hm hm' => by simp [hm']) (by simp [hqn]) (fun e sz sh xs k hl' => ?_) (.inl hq) (fun m ob b' o hm hl' ho => ?_) (fun b' ob ob' _ hl1 hl2 ho1 ho2 => ?_) (fun k hV hL m ob hm hl' => ?_) (fun m hm => ?_)⟩
  · rw [hlq, if_neg (Ne.symm hm), if_neg (Ne.symm hm')] at hl'
    exact hl'
  · rw [hlq, if_pos rfl] at hl'
    cases hl'
  · refine ⟨n, _, .inl rfl, hl, ?_, fun _ => trivial⟩
    rcases hm with rfl | rfl
    · rw [hlq, if_pos rfl] at hl'
      cases hl'
      simp only [hqn, if_false] at ho
      exact .inl ((own_flat rfl).1 ho)
    · rw [hlq, if_neg hqn, if_pos rfl] at hl'
      cases hl'
      simp only [if_true] at ho
      exact .inr ⟨rfl, (h5 b').2 ((own_flat rfl).1 ho)⟩
  · rw [hlq, if_pos rfl] at hl1
    rw [hlq, if_neg hqn, if_pos rfl] at hl2
    cases hl1
    cases hl2
    simp only [hqn, if_false] at ho1
    simp only [if_true] at ho2
    have e1 := (own_flat rfl).1 ho1
    rw [hbq] at e1
    cases e1
    exact h6 ((h5 b).2 ((own_flat rfl).1 ho2))
  · rcases hm with rfl | rfl
    · rw [hlq, if_pos rfl] at hl'
      cases hl'
      simp only [hqn, if_false]
      refine ⟨b, vs.set i u, t, h1, h2, ?_⟩
      simp only [Sd.fresh, Bool.and_eq_true] at hq
      have h9 := RepL.set (hL cs vs (noneSaysO_look hq.2 hl).2 h8) i (x := .own q 0) (v := u) ?_
      · exact h9
      · intro e' sz' sh xs' hl''
        simp
    · rw [hlq, if_neg hqn, if_pos rfl] at hl'
      cases hl'
      simp only [if_true]
      exact ⟨ys, h3, RepE.keep k _ _ _ h4⟩
  · rw [hlq]
    split
    · rfl
    · split
      · rfl
      · exact h.has m hm
theorem StB.hboxIn {C : Ctx} {β : Nat → Hd} {S : Sd} {a : Act} {w : World} (h : StB C β S a w) {n q e sz i k : Nat} {xs : List D} {cs : List V} {H0 : List (Nat × Ob)} (hl : look n S.H = some (.box cs)) (hi : cs[i]? = some (.own q k)) (hr : look q S.H = some (.row e sz false xs k))
    (hs : saysL q (cs.set i (.nils 0)) = false) (hd : ∀ m, m ≠ q → look m H0 = look m S.H) (hdq : look q H0 = none) (hN : C.N.contains q = false) :
    ∃ β', StB C β' { S with H := (n, .hbox e sz xs i (cs.set i (.nils 0))) :: H0 } a w := by
  have hqn : n ≠ q := by
    rintro rfl
    rw [hl] at hr
    cases hr
  obtain ⟨b, vs, t, h1, h2, h3⟩ := h.obs n _ hl
  obtain ⟨ys, h4, h5⟩ := h.obs q _ hr
  obtain ⟨u, h6, h7⟩ := h3.get hi
  have hu : u = (β q).v := h7 e sz false xs hr
  subst hu
  have hiv : i < vs.length := (List.getElem?_eq_some_iff.1 h6).1
  have hbq : hb (β n).v = some b := by rw [h1]; rfl
  have hlq : ∀ m, look m ((n, Ob.hbox e sz xs i (cs.set i (.nils 0))) :: H0) = if n = m then some (.hbox e sz xs i (cs.set i (.nils 0))) else look m H0 := fun m => by rw [look_cons]
  refine ⟨fun m => if m = n then ⟨(β n).v, (hb (β q).v).toList⟩ else β m, h.recast n q (fun m ob hm hm' hl' => ?_) (fun m hm hm' => by simp [hm]) (by simp) (fun e sz sh xs k hl' => ?_) (.inr ⟨?_, by simp [Ne.symm hqn]⟩) (fun m ob b' o hm hl' ho => ?_) (fun b' ob ob' _ hl1 hl2 ho1 ho2 => ?_) (fun k hV hL m ob hm hl' => ?_) (fun m hm => ?_)⟩
  · rw [hlq, if_neg (Ne.symm hm), hd m hm'] at hl'
    exact hl'
  · rw [hlq, if_pos rfl] at hl'
    cases hl'
  · rw [hlq, if_neg hqn]
    exact hdq
  · rcases hm with hm | hm
    · have hm := hm.symm
      subst hm
      rw [hlq, if_pos rfl] at hl'
      cases hl'
      simp only [if_true] at ho
      rcases ho with ho | ⟨_, ho⟩
      · exact ⟨n, _, .inl rfl, hl, .inl ho, fun _ => trivial⟩
      · exact ⟨q, _, .inr rfl, hr, .inl (by simpa using ho), fun _ => .inl rfl⟩
    · have hm := hm.symm
      subst hm
      rw [hlq, if_neg hqn, hdq] at hl'
      cases hl'
  · rw [hlq, if_neg hqn, hdq] at hl2
    cases hl2
  · rcases hm with rfl | rfl
    · rw [hlq, if_pos rfl] at hl'
      cases hl'
      simp only [if_true]
      refine ⟨b, vs.set i (.slice none 0 0), (β q).v, t, ys, h1, ?_, h4, RepE.keep k _ _ _ h5, fun q' => by simp, ?_, by simpa using hiv, hL _ _ hs (RepL.set h3 i rfl)⟩
      · rw [List.set_set]
        rw [show vs.set i (β q).v = vs from by
          obtain ⟨h8, h9⟩ := List.getElem?_eq_some_iff.1 h6
          rw [← h9]; exact List.set_getElem_self h8]
        exact h2
      · intro hm
        have : hb (β q).v = some b := by simpa using hm
        exact h.apart n q b _ _ hqn hl hr (.inl hbq) (.inl this)
    · rw [hlq, if_neg hqn, hdq] at hl'
      cases hl'
  · rw [hlq]
    split
    · rfl
    · rename_i hmn
      by_cases hmq : m = q
      · subst hmq
        simp [hm] at hN
      · rw [hd m hmq]
        exact h.has m hm
def updF (f : ByteArray → List D) (s : ByteArray) (xs : List D) : ByteArray → List D := fun t => if t = s then xs else f t
theorem pair_one {es : List MapEntry} (h : es.Pairwise fun x y => x.key ≠ y.key) {x y : MapEntry} (hx : x ∈ es) (hy : y ∈ es) (hk : x.key = y.key) : x = y := by
  obtain ⟨i, hi, rfl⟩ := List.mem_iff_getElem.1 hx
  obtain ⟨j, hj, rfl⟩ := List.mem_iff_getElem.1 hy
  rcases Nat.lt_trichotomy i j with hlt | hlt | hlt
  · exact absurd hk (List.pairwise_iff_getElem.1 h i j hi hj hlt)
  · subst hlt; rfl
  · exact absurd hk.symm (List.pairwise_iff_getElem.1 h j i hj hi hlt)
theorem Lies.one {es : List MapEntry} (h1 : es.Pairwise fun x y => x.key ≠ y.key) {s : ByteArray} {u : Value} (h : Lies es s u) {en : MapEntry} (he : en ∈ es) (hk : en.key = .string s) : en.val = u := by
  rcases h with ⟨en', h2, h3, h4⟩ | ⟨h2, _⟩
  · rw [pair_one h1 he h2 (hk.trans h3.symm), h4]
  · exact absurd hk (h2 en he)
theorem StB.smapNew {C : Ctx} {β : Nat → Hd} {S : Sd} {a : Act} {w : World} (h : StB C β S a w) {n : Nat} (e sz : Nat) (hl : look n S.H = some (.map [] [])) : ∃ β', StB C β' { S with H := (n, .smap e sz (fun _ => []) none) :: S.H } a w := by
  let β' : Nat → Hd := fun m => if m = n then ⟨(β n).v, []⟩ else β m
  have hv : ∀ m, (β' m).v = (β m).v := fun m => by
    show (if m = n then (⟨(β n).v, []⟩ : Hd) else β m).v = _
    split
    · rename_i e; subst e; rfl
    · rfl
  have hlq : ∀ m, look m ((n, Ob.smap e sz (fun _ => []) none) :: S.H) = if n = m then some (.smap e sz (fun _ => []) none) else look m S.H := fun m => by rw [look_cons]
  have hn : β' n = ⟨(β n).v, []⟩ := by simp [β']
  have hH : ∀ m, V.SameNames β β' S.H ((n, Ob.smap e sz (fun _ => []) none) :: S.H) m := fun m => ⟨hv m, fun e' sz' sh xs k hm => by
    rw [hlq] at hm
    split at hm
    · cases hm
    · exact ⟨sh, xs, hm⟩⟩
  obtain ⟨r, es, c, h1, h2, h3, _, h4⟩ := h.obs n _ hl
  have he : es.toList = [] := by
    simp only [RepB] at h3
    exact List.map_eq_nil_iff.1 h3
  refine ⟨β', h.turnG hl (fun m hm => by simp [β', hm]) rfl rfl rfl (Nat.le_refl _) (fun _ _ _ => rfl) (fun b hb' => ?_) (fun _ _ _ _ _ h => h) (fun _ _ _ _ _ => trivial)
    (fun k t x v _ => RepV.gen k x v (fun m _ => hH m)) (fun _ => hv n) (fun k m ob2 vs _ _ => RepL.gen k _ vs (fun m _ => hH m)) (fun k => ?_)⟩
  · rw [hn] at hb'
    rcases hb' with hb' | ⟨_, hb'⟩
    · exact .inl (.inl hb')
    · cases hb'
  · rw [hn]
    refine ⟨r, es, c, h1, h2, ?_, fun s v hx => by cases hx⟩
    rw [he]
    exact ⟨(fun en h => nomatch h), .nil, (fun en h => nomatch h), (fun en h => nomatch h), (fun _ _ _ => rfl), (fun b => ⟨(fun h => nomatch h), (fun ⟨en, h, _⟩ => nomatch h)⟩), (fun en h => nomatch h), (fun h => nomatch h)⟩
theorem StB.smapOut {C : Ctx} {β : Nat → Hd} {S : Sd} {a : Act} {w : World} (h : StB C β S a w) {n q e sz : Nat} {f : ByteArray → List D} (s : ByteArray) (hl : look n S.H = some (.smap e sz f none)) (hq : S.fresh q = true) :
    ∃ β', StB C β' { S with H := (n, .smap e sz f (some (s, .own q 0))) :: (q, .row e sz false (f s) 0) :: S.H } a w := by
  have hqn : n ≠ q := by
    rintro rfl
    rw [Sd.fresh_none hq] at hl
    cases hl
  obtain ⟨r, es, c, h1, h2, h3, _⟩ := h.obs n _ hl
  have hbr : hb (β n).v = some r := by rw [h1]; rfl
  obtain ⟨u, hu⟩ : ∃ u, Lies es.toList s u := by
    by_cases hm : ∃ en ∈ es.toList, en.key = .string s
    · obtain ⟨en, h4, h5⟩ := hm
      exact ⟨en.val, .inl ⟨en, h4, h5, rfl⟩⟩
    · exact ⟨_, .inr ⟨fun en h4 h5 => hm ⟨en, h4, h5⟩, rfl⟩⟩
  obtain ⟨ys, h4, h5⟩ : ∃ ys, w.ownsRow 0 e sz u (f s).length ys ∧ RepE w (Mut C.M0 β S.H) sz (f s) ys := by
    rcases hu with ⟨en, h6, h7, h8⟩ | ⟨h6, h7⟩
    · rw [← h8]
      exact h3.here en h6 s h7 (by simp)
    · rw [h7, h3.none s (by simp) h6]
      exact ⟨[], World.ownsRow_nil w 0 e sz, rfl⟩
  have hub : ∀ b, hb u = some b → b ∈ (β n).bs := fun b hb' => by
    rcases hu with ⟨en, h6, h7, h8⟩ | ⟨h6, h7⟩
    · rw [← h8] at hb'
      exact (h3.blk b).2 ⟨en, h6, s, h7, by simp, hb'⟩
    · rw [h7] at hb'
      cases hb'
  have hlq : ∀ m, look m ((n, Ob.smap e sz f (some (s, .own q 0))) :: (q, Ob.row e sz false (f s) 0) :: S.H) = if n = m then some (.smap e sz f (some (s, .own q 0))) else if q = m then some (.row e sz false (f s) 0) else look m S.H := fun m => by rw [look_cons, look_cons]
  have hsm : SMap w (Mut C.M0 β S.H) e sz f (some s) es.toList c r ((β n).bs.filter fun b => hb u ≠ some b) := by
    refine ⟨h3.key, h3.one, h3.born, fun en he s' hk hx => h3.here en he s' hk (by simp), fun s' hx => h3.none s' (by simp), fun b => ?_, fun en he en' he' s1 s2 b k1 k2 x1 x2 => h3.apart en he en' he' s1 s2 b k1 k2 (by simp) (by simp), fun hm => h3.map (List.mem_filter.1 hm).1⟩
    rw [List.mem_filter]
    constructor
    · rintro ⟨hm, hne⟩
      obtain ⟨en, h6, s', h7, _, h8⟩ := (h3.blk b).1 hm
      refine ⟨en, h6, s', h7, ?_, h8⟩
      rintro e'
      cases e'
      have := hu.one h3.one h6 h7
      rw [this] at h8
      simp [h8] at hne
    · rintro ⟨en, h6, s', h7, h8, h9⟩
      refine ⟨(h3.blk b).2 ⟨en, h6, s', h7, by simp, h9⟩, ?_⟩
      have : hb u ≠ some b := fun hb' => by
        rcases hu with ⟨en', h10, h11, h12⟩ | ⟨h10, h11⟩
        · rw [← h12] at hb'
          exact h3.apart en h6 en' h10 s' s b h7 h11 (by simp) (by simp) (fun e' => h8 (by rw [e'])) h9 hb'
        · rw [h11] at hb'
          cases hb'
      simp [this]
  refine ⟨fun m => if m = q then ⟨u, []⟩ else if m = n then ⟨(β n).v, (β n).bs.filter fun b => hb u ≠ some b⟩ else β m, h.recast n q (fun m ob hm hm' hl' => ?_) (fun m hm hm' => by simp [hm, hm']) (by simp [hqn]) (fun e sz sh xs k hl' => ?_) (.inl hq) (fun m ob b' o hm hl' ho => ?_) (fun b' ob ob' _ hl1 hl2 ho1 ho2 => ?_) (fun k hV hL m ob hm hl' => ?_) (fun m hm => ?_)⟩
  · rw [hlq, if_neg (Ne.symm hm), if_neg (Ne.symm hm')] at hl'
    exact hl'
  · rw [hlq, if_pos rfl] at hl'
    cases hl'
  · refine ⟨n, _, .inl rfl, hl, ?_, fun _ => trivial⟩
    rcases hm with hm | hm
    · have hm := hm.symm
      subst hm
      rw [hlq, if_pos rfl] at hl'
      cases hl'
      simp only [hqn, if_false, if_true] at ho
      rcases ho with ho | ⟨_, ho⟩
      · exact .inl ho
      · exact .inr ⟨rfl, (List.mem_filter.1 ho).1⟩
    · have hm := hm.symm
      subst hm
      rw [hlq, if_neg hqn, if_pos rfl] at hl'
      cases hl'
      simp only [if_true] at ho
      exact .inr ⟨rfl, hub b' ((own_flat rfl).1 ho)⟩
  · rw [hlq, if_pos rfl] at hl1
    rw [hlq, if_neg hqn, if_pos rfl] at hl2
    cases hl1
    cases hl2
    simp only [hqn, if_false, if_true] at ho1
    simp only [if_true] at ho2
    have ho2 := (own_flat rfl).1 ho2
    rcases ho1 with ho1 | ⟨_, ho1⟩
    · rw [hbr] at ho1
      cases ho1
      exact h3.map (hub r ho2)
    · have := (List.mem_filter.1 ho1).2
      simp [ho2] at this
  · rcases hm with rfl | rfl
    · rw [hlq, if_pos rfl] at hl'
      cases hl'
      simp only [hqn, if_false, if_true]
      refine ⟨r, es, c, h1, h2, hsm.keep k (fun _ _ => rfl), fun s' v hx => ?_⟩
      cases hx
      refine ⟨u, fun e' sz' sh xs hl'' => ?_, hu⟩
      simp
    · rw [hlq, if_neg hqn, if_pos rfl] at hl'
      cases hl'
      simp only [if_true]
      exact ⟨ys, h4, RepE.keep k _ _ _ h5⟩
  · rw [hlq]
    split
    · rfl
    · split
      · rfl
      · exact h.has m hm
theorem StB.smapIn {C : Ctx} {β : Nat → Hd} {S : Sd} {a : Act} {w : World} (h : StB C β S a w) {n q e sz k : Nat} {f : ByteArray → List D} {s : ByteArray} {xs : List D} {H0 : List (Nat × Ob)} (hl : look n S.H = some (.smap e sz f (some (s, .own q k)))) (hr : look q S.H = some (.row e sz false xs k))
    (hd : ∀ m, m ≠ q → look m H0 = look m S.H) (hdq : look q H0 = none) (hN : C.N.contains q = false) :
    ∃ β', StB C β' { S with H := (n, .smap e sz (updF f s xs) none) :: H0 } a w := by
  have hqn : n ≠ q := by
    rintro rfl
    rw [hl] at hr
    cases hr
  obtain ⟨r, es, c, h1, h2, h3, h4⟩ := h.obs n _ hl
  obtain ⟨ys, h5, h6⟩ := h.obs q _ hr
  obtain ⟨u, hu, hu2⟩ := h4 s _ rfl
  have hu : u = (β q).v := hu e sz false xs hr
  subst hu
  have hbr : hb (β n).v = some r := by rw [h1]; rfl
  have hlq : ∀ m, look m ((n, Ob.smap e sz (updF f s xs) none) :: H0) = if n = m then some (.smap e sz (updF f s xs) none) else look m H0 := fun m => by rw [look_cons]
  have hdis : ∀ b, hb (β q).v = some b → ¬ (b = r ∨ b ∈ (β n).bs) := fun b hb' hm => by
    rcases hm with rfl | hm
    · exact h.apart n q b _ _ hqn hl hr (.inl hbr) (.inl hb')
    · exact h.apart n q b _ _ hqn hl hr (.inr ⟨rfl, hm⟩) (.inl hb')
  have hsm : SMap w (Mut C.M0 β S.H) e sz (updF f s xs) none es.toList c r ((β n).bs ++ (hb (β q).v).toList) := by
    refine ⟨h3.key, h3.one, h3.born, fun en he s' hk _ => ?_, fun s' _ hno => ?_, fun b => ?_, fun en he en' he' s1 s2 b k1 k2 _ _ hne b1 b2 => ?_, fun hm => ?_⟩
    · by_cases e' : s' = s
      · subst e'
        rw [hu2.one h3.one he hk]
        simp only [updF, if_true]
        exact ⟨ys, h5, h6⟩
      · simp only [updF, e', if_false]
        exact h3.here en he s' hk (fun h => e' (by simpa using h.symm))
    · by_cases e' : s' = s
      · subst e'
        simp only [updF, if_true]
        rcases hu2 with ⟨en, h7, h8, _⟩ | ⟨_, h7⟩
        · exact absurd h8 (hno en h7)
        · rw [h7] at h5
          obtain ⟨a', c', h8⟩ := row_shape0 h5
          simp only [Value.slice.injEq] at h8
          exact List.eq_nil_of_length_eq_zero h8.2.1.symm
      · simp only [updF, e', if_false]
        exact h3.none s' (fun h => e' (by simpa using h.symm)) hno
    · rw [List.mem_append, h3.blk b]
      constructor
      · rintro (⟨en, h7, s', h8, h9, h10⟩ | h7)
        · exact ⟨en, h7, s', h8, by simp, h10⟩
        · have h7 : hb (β q).v = some b := by simpa using h7
          rcases hu2 with ⟨en, h8, h9, h10⟩ | ⟨_, h8⟩
          · exact ⟨en, h8, s, h9, by simp, by rw [h10]; exact h7⟩
          · rw [h8] at h7
            cases h7
      · rintro ⟨en, h7, s', h8, _, h10⟩
        by_cases e' : s' = s
        · subst e'
          rw [hu2.one h3.one h7 h8] at h10
          exact .inr (by simpa using h10)
        · exact .inl ⟨en, h7, s', h8, fun h => e' (by simpa using h.symm), h10⟩
    · by_cases e1 : s1 = s
      · subst e1
        rw [hu2.one h3.one he k1] at b1
        exact hdis b b1 (.inr ((h3.blk b).2 ⟨en', he', s2, k2, fun h => hne (by simpa using h), b2⟩))
      · by_cases e2 : s2 = s
        · subst e2
          rw [hu2.one h3.one he' k2] at b2
          exact hdis b b2 (.inr ((h3.blk b).2 ⟨en, he, s1, k1, fun h => e1 (by simpa using h.symm), b1⟩))
        · exact h3.apart en he en' he' s1 s2 b k1 k2 (fun h => e1 (by simpa using h.symm)) (fun h => e2 (by simpa using h.symm)) hne b1 b2
    · rcases List.mem_append.1 hm with hm | hm
      · exact h3.map hm
      · exact hdis r (by simpa using hm) (.inl rfl)
  refine ⟨fun m => if m = n then ⟨(β n).v, (β n).bs ++ (hb (β q).v).toList⟩ else β m, h.recast n q (fun m ob hm hm' hl' => ?_) (fun m hm hm' => by simp [hm]) (by simp) (fun e sz sh xs k hl' => ?_) (.inr ⟨?_, by simp [Ne.symm hqn]⟩) (fun m ob b' o hm hl' ho => ?_) (fun b' ob ob' _ hl1 hl2 ho1 ho2 => ?_) (fun k hV hL m ob hm hl' => ?_) (fun m hm => ?_)⟩
  · rw [hlq, if_neg (Ne.symm hm), hd m hm'] at hl'
    exact hl'
  · rw [hlq, if_pos rfl] at hl'
    cases hl'
  · rw [hlq, if_neg hqn]
    exact hdq
  · rcases hm with hm | hm
    · have hm := hm.symm
      subst hm
      rw [hlq, if_pos rfl] at hl'
      cases hl'
      simp only [if_true] at ho
      rcases ho with ho | ⟨_, ho⟩
      · exact ⟨n, _, .inl rfl, hl, .inl ho, fun _ => trivial⟩
      · rcases List.mem_append.1 ho with ho | ho
        · exact ⟨n, _, .inl rfl, hl, .inr ⟨rfl, ho⟩, fun _ => trivial⟩
        · exact ⟨q, _, .inr rfl, hr, .inl (by simpa using ho), fun _ => .inl rfl⟩
    · have hm := hm.symm
      subst hm
      rw [hlq, if_neg hqn, hdq] at hl'
      cases hl'
  · rw [hlq, if_neg hqn, hdq] at hl2
    cases hl2
  · rcases hm with rfl | rfl
    · rw [hlq, if_pos rfl] at hl'
      cases hl'
      simp only [if_true]
      exact ⟨r, es, c, h1, h2, hsm.keep k (fun _ _ => rfl), fun s' v hx => by cases hx⟩
    · rw [hlq, if_neg hqn, hdq] at hl'
      cases hl'
  · rw [hlq]
    split
    · rfl
    · by_cases hmq : m = q
      · subst hmq
        simp [hm] at hN
      · rw [hd m hmq]
        exact h.has m hm
end
end
section
theorem drop_tells {α : Type} {q : Nat} {l r : List (Nat × α)} (h : Drop [q] l r) : (∀ m, m ≠ q → look m r = look m l) ∧ look q r = none := by
  induction h with
  | nil => exact ⟨fun _ _ => rfl, rfl⟩
  | @take t v l r h1 _ ih =>
    have hne : t ≠ q := fun e => by subst e; simp [memN] at h1
    refine ⟨fun m hm => ?_, ?_⟩
    · rw [look_cons, look_cons]
      split
      · rfl
      · exact ih.1 m hm
    · rw [look_cons, if_neg hne]
      exact ih.2
  | @drop t v l r h1 _ ih =>
    refine ⟨fun m hm => ?_, ih.2⟩
    rw [look_cons, if_neg]
    · exact ih.1 m hm
    · rintro rfl
      simp [memN, Ne.symm hm] at h1
section
variable {E : Set} {Q : Exit → Sd → Prop} {ops : Array Oper} {draw : Bool} {rest : Todo} {way : Way3} {ty : TypeId} {pos : String} {af : Array Edge} {gd : Option (Nat × Bool)} {dst : Option Tmp}
variable {env : List (Nat × V)} {H : List (Nat × Ob)} {gl : List (Nat × List D)} {d : Nat} {C : Ctx}
theorem wk_hbox_out {n q e sz i : Nat} {xs : List D} {cs : List V} (hl : look n H = some (.hbox e sz xs i cs)) (hq : Sd.fresh ⟨env, H, gl⟩ q = true) : Wk C ⟨env, H, gl⟩ ⟨env, (n, .box (cs.set i (.own q 0))) :: (q, .row e sz false xs 0) :: H, gl⟩ :=
  fun _ _ ⟨_, hB⟩ => hB.hboxOut hl hq
theorem wk_hbox_in {n q e sz i k : Nat} {xs : List D} {cs : List V} {H0 : List (Nat × Ob)} (hl : look n H = some (.box cs)) (hi : cs[i]? = some (.own q k)) (hr : look q H = some (.row e sz false xs k)) (hs : saysL q (cs.set i (.nils 0)) = false) (hd : Drop [q] H H0) (hN : C.N.contains q = false) :
    Wk C ⟨env, H, gl⟩ ⟨env, (n, .hbox e sz xs i (cs.set i (.nils 0))) :: H0, gl⟩ :=
  fun _ _ ⟨_, hB⟩ => hB.hboxIn hl hi hr hs (drop_tells hd).1 (drop_tells hd).2 hN
theorem wk_smap {n : Nat} (e sz : Nat) (hl : look n H = some (.map [] [])) : Wk C ⟨env, H, gl⟩ ⟨env, (n, .smap e sz (fun _ => []) none) :: H, gl⟩ := fun _ _ ⟨_, hB⟩ => hB.smapNew e sz hl
theorem wk_smap_out {n q e sz : Nat} {f : ByteArray → List D} (s : ByteArray) (hl : look n H = some (.smap e sz f none)) (hq : Sd.fresh ⟨env, H, gl⟩ q = true) : Wk C ⟨env, H, gl⟩ ⟨env, (n, .smap e sz f (some (s, .own q 0))) :: (q, .row e sz false (f s) 0) :: H, gl⟩ :=
  fun _ _ ⟨_, hB⟩ => hB.smapOut s hl hq
theorem wk_smap_in {n q e sz k : Nat} {f : ByteArray → List D} {s : ByteArray} {xs : List D} {H0 : List (Nat × Ob)} (hl : look n H = some (.smap e sz f (some (s, .own q k)))) (hr : look q H = some (.row e sz false xs k)) (hd : Drop [q] H H0) (hN : C.N.contains q = false) :
    Wk C ⟨env, H, gl⟩ ⟨env, (n, .smap e sz (updF f s xs) none) :: H0, gl⟩ := fun _ _ ⟨_, hB⟩ => hB.smapIn hl hr (drop_tells hd).1 (drop_tells hd).2 hN
theorem tc_wk {c : Code} {S S' : Sd} (hw : Wk E.C S S') (h : TC E c Q S') : TC E c Q S := fun a w hS => h a w (hw a w hS)
theorem q_slookup {S : Sd} {t k e n e' sz : Nat} {x y : Operand} {f : ByteArray → List D} {s : ByteArray} {v : V} [ht : TMap E.P t k e] [hkk : TKey E.P k .str] [hz : TZeroV E.P e (.nils sz)] (hx : S.ev x = some (.map n)) (hox : okOp x = true) (hl : look n S.H = some (.smap e' sz f (some (s, v)))) (hy : S.ev y = some (.d (.str s))) (hoy : okOp y = true) :
    Quiet E S ⟨dst, .lookup t x y false, ty, pos, af, gd⟩ v := Quiet.mk fun β a w h => by
  obtain ⟨r, h1, h2⟩ := h.ev hx hox
  obtain ⟨r', es, c, h3, h4, h5, h6⟩ := h.obs n _ hl
  rw [h1] at h3
  cases h3
  obtain ⟨u, hu1, hu2⟩ := h6 s v rfl
  have hkey : a.eval y = keyV (.str s) := h.ev hy hoy
  have hc : Comp .str (.str s) (.str s) := .str _ _
  refine ⟨u, fun w' g => ?_, hu1⟩
  obtain ⟨q, q1, q2⟩ := findKey_run (P := E.P) (t := k) (x := .str s) w' es.toList (fun en he => by
    obtain ⟨s', hs'⟩ := h5.key en he
    exact ⟨.str s', .str _ _, hs'⟩)
  rcases q2 with ⟨rfl, q3⟩ | ⟨j, en, rfl, q3, q4, _⟩
  · obtain ⟨ie, z, hi, hzi, hzr⟩ := zeroV_rep hz
    have hz0 : z = .slice none 0 0 := hzr (w := w) (M := Mut E.C.M0 β S.H) (β := β) (H := S.H)
    have hu0 : u = .slice none 0 0 := by
      rcases hu2 with ⟨en, h7, h8, _⟩ | ⟨_, h7⟩
      · exact absurd h8 (q3 en h7)
      · exact h7
    subst hz0 hu0
    simp only [execOp, h2, hkey, Instr.lookup, Sem.run_bind, run_underlying (map_parts ht), Result.andThen_ok, run_getMap (grows_heap g h4), Sem.run_pure, hc.check, q1, run_zeroValue' hi hzi]
    rfl
  · have hu0 : en.val = u := hu2.one h5.one (List.mem_of_getElem? q3) q4
    subst hu0
    simp only [execOp, h2, hkey, Instr.lookup, Sem.run_bind, run_underlying (map_parts ht), Result.andThen_ok, run_getMap (grows_heap g h4), Sem.run_pure, hc.check, q1]
    rfl
theorem SMap.hit {w : World} {M : Nat → Nat → Prop} {e sz c r j : Nat} {f : ByteArray → List D} {s : ByteArray} {es : List MapEntry} {bs : List Nat} (h : SMap w M e sz f (some s) es c r bs) {en : MapEntry} (he : es[j]? = some en) (hk : en.key = .string s) (u : Value) :
    SMap w M e sz f (some s) (es.modify j fun x => { x with key := en.key, val := u }) c r bs ∧ Lies (es.modify j fun x => { x with key := en.key, val := u }) s u := by
  have hj := (List.getElem?_eq_some_iff.1 he).1
  have hej := (List.getElem?_eq_some_iff.1 he).2
  have old : ∀ x ∈ es.modify j fun x => { x with key := en.key, val := u }, (x ∈ es ∧ x.key ≠ .string s) ∨ (x.key = .string s ∧ x.val = u ∧ x.born = en.born) := fun x hx => by
    obtain ⟨i, hi, rfl⟩ := List.mem_iff_getElem.1 hx
    rw [List.getElem_modify]
    split
    · rename_i hij
      subst hij
      refine .inr ⟨hk, rfl, ?_⟩
      dsimp only
      rw [hej]
    · rename_i hij
      have hi' : i < es.length := by simpa using hi
      refine .inl ⟨List.getElem_mem hi', fun h2 => hij ?_⟩
      rcases Nat.lt_trichotomy i j with hlt | hlt | hlt
      · exact absurd (h2.trans (by rw [hej]; exact hk.symm)) (List.pairwise_iff_getElem.1 h.one i j hi' hj hlt)
      · exact hlt.symm
      · exact absurd ((by rw [hej]; exact hk : es[j].key = .string s).trans h2.symm) (List.pairwise_iff_getElem.1 h.one j i hj hi' hlt)
  have new : ∀ x ∈ es, x.key ≠ .string s → x ∈ es.modify j fun x => { x with key := en.key, val := u } := fun x hx hne => by
    obtain ⟨i, hi, rfl⟩ := List.mem_iff_getElem.1 hx
    have hij : j ≠ i := by rintro rfl; rw [hej] at hne; exact hne hk
    exact List.mem_of_getElem? (i := i) (by rw [List.getElem?_modify, List.getElem?_eq_getElem hi]; simp [hij])
  have here : (⟨en.key, u, en.born⟩ : MapEntry) ∈ es.modify j fun x => { x with key := en.key, val := u } := List.mem_of_getElem? (i := j) (by rw [List.getElem?_modify, he]; simp)
  refine ⟨⟨fun x hx => ?_, ?_, fun x hx => ?_, fun x hx s' hks hne => ?_, fun s' hne hno => ?_, fun b => ?_, fun x hx y hy s1 s2 b k1 k2 n1 n2 => ?_, h.map⟩, .inl ⟨_, here, hk, rfl⟩⟩
  · rcases old x hx with ⟨h1, _⟩ | ⟨h1, _⟩
    · exact h.key x h1
    · exact ⟨s, h1⟩
  · have := (map_set he (u := u)).1
    rw [← List.pairwise_map (f := fun x : MapEntry => x.key) (R := fun a b => a ≠ b), this, List.pairwise_map]
    exact h.one
  · rcases old x hx with ⟨h1, _⟩ | ⟨_, _, h1⟩
    · exact h.born x h1
    · rw [h1]; exact h.born en (List.mem_of_getElem? he)
  · rcases old x hx with ⟨h1, _⟩ | ⟨h1, _⟩
    · exact h.here x h1 s' hks hne
    · rw [h1] at hks; cases hks; exact absurd rfl hne
  · refine h.none s' hne fun x hx hks => ?_
    refine hno x (new x hx fun h1 => ?_) hks
    rw [h1] at hks; cases hks; exact absurd rfl hne
  · rw [h.blk b]
    constructor
    · rintro ⟨x, h1, s', h2, h3, h4⟩
      exact ⟨x, new x h1 (fun h5 => by rw [h5] at h2; cases h2; exact absurd rfl h3), s', h2, h3, h4⟩
    · rintro ⟨x, h1, s', h2, h3, h4⟩
      rcases old x h1 with ⟨h5, _⟩ | ⟨h5, _⟩
      · exact ⟨x, h5, s', h2, h3, h4⟩
      · rw [h5] at h2; cases h2; exact absurd rfl h3
  · have hx' : x ∈ es := by
      rcases old x hx with ⟨h5, _⟩ | ⟨h5, _⟩
      · exact h5
      · rw [h5] at k1; cases k1; exact absurd rfl n1
    have hy' : y ∈ es := by
      rcases old y hy with ⟨h5, _⟩ | ⟨h5, _⟩
      · exact h5
      · rw [h5] at k2; cases k2; exact absurd rfl n2
    exact h.apart x hx' y hy' s1 s2 b k1 k2 n1 n2
theorem SMap.more {w : World} {M : Nat → Nat → Prop} {e sz c r : Nat} {f : ByteArray → List D} {s : ByteArray} {es : List MapEntry} {bs : List Nat} (h : SMap w M e sz f (some s) es c r bs) (hno : ∀ en ∈ es, en.key ≠ .string s) (u : Value) :
    SMap w M e sz f (some s) (es ++ [⟨.string s, u, c⟩]) (c + 1) r bs ∧ Lies (es ++ [⟨.string s, u, c⟩]) s u := by
  have old : ∀ x ∈ es ++ [(⟨.string s, u, c⟩ : MapEntry)], x ∈ es ∨ x = ⟨.string s, u, c⟩ := fun x hx => by simpa using hx
  refine ⟨⟨fun x hx => ?_, ?_, fun x hx => ?_, fun x hx s' hks hne => ?_, fun s' hne hn => ?_, fun b => ?_, fun x hx y hy s1 s2 b k1 k2 n1 n2 => ?_, h.map⟩, .inl ⟨⟨.string s, u, c⟩, by simp, rfl, rfl⟩⟩
  · rcases old x hx with h1 | rfl
    · exact h.key x h1
    · exact ⟨s, rfl⟩
  · rw [List.pairwise_append]
    exact ⟨h.one, List.pairwise_singleton .., fun x hx y hy => by rw [List.mem_singleton] at hy; subst hy; exact hno x hx⟩
  · rcases old x hx with h1 | rfl
    · have := h.born x h1; omega
    · exact Nat.lt_succ_self c
  · rcases old x hx with h1 | rfl
    · exact h.here x h1 s' hks hne
    · cases hks; exact absurd rfl hne
  · exact h.none s' hne fun x hx => hn x (List.mem_append_left _ hx)
  · rw [h.blk b]
    constructor
    · rintro ⟨x, h1, r⟩
      exact ⟨x, List.mem_append_left _ h1, r⟩
    · rintro ⟨x, h1, s', h2, h3, h4⟩
      rcases old x h1 with h5 | rfl
      · exact ⟨x, h5, s', h2, h3, h4⟩
      · cases h2; exact absurd rfl h3
  · have hx' : x ∈ es := by
      rcases old x hx with h5 | rfl
      · exact h5
      · cases k1; exact absurd rfl n1
    have hy' : y ∈ es := by
      rcases old y hy with h5 | rfl
      · exact h5
      · cases k2; exact absurd rfl n2
    exact h.apart x hx' y hy' s1 s2 b k1 k2 n1 n2
theorem t_supdate {S : Sd} {t k e n e' sz : Nat} {x y z : Operand} {f : ByteArray → List D} {s : ByteArray} {v v' : V} [ht : TMap E.P t k e] [hkk : TKey E.P k .str] (hx : S.ev x = some (.map n)) (hox : okOp x = true) (hl : look n S.H = some (.smap e' sz f (some (s, v)))) (hy : S.ev y = some (.d (.str s))) (hoy : okOp y = true) (hz : S.ev z = some v') (hoz : okOp z = true)
    : Turn E S ⟨none, .mapUpdate t x y z, ty, pos, af, gd⟩ { S with H := (n, .smap e' sz f (some (s, v'))) :: S.H } := Turn.mk fun β a w h => by
  obtain ⟨r, h1, h2⟩ := h.ev hx hox
  obtain ⟨r', es, c, h3, h4, h5, h6⟩ := h.obs n _ hl
  rw [h1] at h3
  cases h3
  have hkey : a.eval y = keyV (.str s) := h.ev hy hoy
  have hval := h.ev hz hoz
  have hc : Comp .str (.str s) (.str s) := .str _ _
  have hbn : hb (β n).v = some r := by rw [h1]; rfl
  have hH : ∀ m e1 sz1 sh xs k, look m ((n, Ob.smap e' sz f (some (s, v'))) :: S.H) = some (.row e1 sz1 sh xs k) → ∃ sh' xs', look m S.H = some (.row e1 sz1 sh' xs' k) := fun m e1 sz1 sh xs k hm => by
    rw [look_set] at hm
    split at hm
    · cases hm
    · exact ⟨sh, xs, hm⟩
  obtain ⟨q, q1, q2⟩ := findKey_run (P := E.P) (t := k) (x := .str s) w es.toList (fun en he => by
    obtain ⟨s', hs'⟩ := h5.key en he
    exact ⟨.str s', .str _ _, hs'⟩)
  have main : ∀ (es' : Array MapEntry) (c' : Nat), SMap w (Mut E.C.M0 β S.H) e' sz f (some s) es'.toList c' r (β n).bs → Lies es'.toList s (a.eval z) →
      StB E.C β { S with H := (n, .smap e' sz f (some (s, v'))) :: S.H } a (w.putObj r (.map es' c')) := fun es' c' hm hly => by
    refine h.turnG hl (fun _ _ => rfl) rfl rfl rfl (by simp [World.putObj]) (fun k _ hk => World.putObj_heap_other (fun e => hk (.inl (by rw [hbn, e])))) (fun b h => .inl h) (fun b' o' y h4 h5 _ => absurd trivial h5) (fun _ _ _ _ _ => trivial)
      (fun k t x v _ => RepV.keep k (fun _ => rfl) hH x v) (fun _ => rfl) (fun k m cs vs _ _ => RepL.keep k (fun _ => rfl) hH _ vs) (fun kp => ?_)
    refine ⟨r, es', c', h1, World.putObj_heap_same (Array.getElem?_eq_some_iff.1 h4).1, hm.keep kp (fun b hb' => World.putObj_heap_other (fun e => ?_)), fun s' y hx => ?_⟩
    · subst e
      exact h5.map hb'
    · cases hx
      exact ⟨_, RepV.keep kp (fun _ => rfl) hH _ _ hval, hly⟩
  rcases q2 with ⟨rfl, q3⟩ | ⟨j, en, rfl, q3, q4, _⟩
  · obtain ⟨m1, m2⟩ := h5.more q3 (a.eval z)
    refine ⟨w.putObj r (.map (es.push { key := keyV (.str s), val := a.eval z, born := c }) (c + 1)), ?_, β, main _ _ (by rw [Array.toList_push]; exact m1) (by rw [Array.toList_push]; exact m2)⟩
    simp only [execOp, h2, hkey, Instr.mapUpdate, Sem.run_bind, run_underlying (map_parts ht), Result.andThen_ok, run_getMap h4, hc.check, q1, run_setMap _ h4, Sem.run_pure]
  · rw [Nat.zero_add] at q1
    have hge : es[j]? = some en := by simpa using q3
    obtain ⟨m1, m2⟩ := h5.hit q3 q4 (a.eval z)
    have q4' : en.key = keyV (.str s) := q4
    rw [q4'] at m1 m2
    refine ⟨w.putObj r (.map (es.modify j fun x => { x with key := keyV (.str s), val := a.eval z }) c), ?_, β, main _ _ (by rw [Array.toList_modify]; exact m1) (by rw [Array.toList_modify]; exact m2)⟩
    simp only [execOp, h2, hkey, Instr.mapUpdate, Sem.run_bind, run_underlying (map_parts ht), Result.andThen_ok, run_getMap h4, hc.check, q1, hge, Option.map_some, Option.getD_some, q4', hc.stays, run_setMap _ h4, Sem.run_pure]
theorem StB.trunc {C : Ctx} {β : Nat → Hd} {S : Sd} {a : Act} {w : World} (h : StB C β S a w) {n e sz k m : Nat} {xs : List D} (hl : look n S.H = some (.row e sz false xs k)) (hm : m ≤ xs.length) (k' : Nat) (hk : max (topE S.env) (topO S.H) ≤ k') (hN : C.N.contains n = false) :
    ∃ ad c, (β n).v = .slice ad xs.length c ∧ xs.length ≤ c ∧ StB C (upd β n (.slice ad m c)) { S with H := (n, .row e sz false (xs.take m) k') :: S.H } a w := by
  obtain ⟨ys, h1, h2⟩ := h.obs n _ hl
  obtain ⟨ad, c, h3, h4, _⟩ := h.row_shape hl
  refine ⟨ad, c, h3, h4, ?_⟩
  have hH : ∀ m', m' ≠ n → look m' ((n, Ob.row e sz false (xs.take m) k') :: S.H) = look m' S.H := fun m' hm' => by rw [look_set, if_neg (Ne.symm hm')]
  have hq : ∀ e' sz' sh' xs' k'', look n ((n, Ob.row e sz false (xs.take m) k') :: S.H) = some (.row e' sz' sh' xs' k'') → max (topE S.env) (topO S.H) ≤ k'' := fun e' sz' sh' xs' k'' h1 => by
    rw [look_set, if_pos rfl] at h1
    cases h1
    exact hk
  have hb0 : ∀ b, hb (.slice ad m c) = some b → hb (β n).v = some b := fun b hb' => by
    rw [h3]
    cases ad <;> exact hb'
  refine h.turn hl (fun m' hm' => upd_other β n _ hm') rfl rfl rfl (Nat.le_refl _) (fun _ _ _ => rfl) (fun b hb' => ?_) (fun _ _ _ _ _ h => h) (fun _ _ _ _ _ => .inl rfl)
    (fun kp t x v hx hv => RepV.bump kp (fun m' hm' => upd_other β n _ hm') ⟨_, _, _, h3⟩ hH hq x v (by have := topE_look hx; omega) hv)
    (fun hm' => absurd hm' (by simpa using hN))
    (fun kp m' cs vs _ hm' hv => RepL.bump kp (fun m' hm' => upd_other β n _ hm') ⟨_, _, _, h3⟩ hH hq _ vs (by have := topO_look hm'; omega) hv) (fun kp => ?_)
  · rw [upd_v] at hb'
    exact .inl (hb0 b hb')
  · rw [upd_same]
    refine ⟨ys.take (m * sz), ?_, RepE.keep kp _ _ _ (h2.take m hm)⟩
    rw [List.length_take, Nat.min_eq_left hm]
    have hle : m * sz ≤ xs.length * sz := Nat.mul_le_mul_right _ hm
    refine ⟨by rw [List.length_take, h1.1, Nat.min_eq_left hle], ?_⟩
    rcases h1.2 with ⟨q1, q2⟩ | ⟨g, cap, cur, q, q0, q1, q2, q3, q4, q5⟩
    · rw [h3] at q1
      simp only [Value.slice.injEq] at q1
      obtain ⟨rfl, _, rfl⟩ := q1
      obtain rfl : m = 0 := by omega
      exact .inl ⟨rfl, rfl⟩
    · rw [h3] at q
      simp only [Value.slice.injEq] at q
      obtain ⟨rfl, _, rfl⟩ := q
      refine .inr ⟨g, c, cur, rfl, q0, q1, by omega, q3, q4, ?_⟩
      rw [← q5, List.take_take, Nat.min_eq_left hle]
theorem run_slice_hi {P : Program} {t e sz : Nat} (ht : TSlice P t e sz) (a : Option Addr) (n c m : Nat) (k : IntKind) (hm : m ≤ c) (w : World) : (Instr.slice t (.slice a n c) none (some (.int k (m : Nat))) none).run P w = .ok (sliced a 0 m c sz) w := by
  obtain ⟨ie, hu, hie, hs, hpos⟩ := slice_parts ht
  have hb : (Instr.sliceBounds true n c none (some (.int k (m : Nat))) none).run P w = .ok (0, m, c) w := by
    have : (m : Int) ≤ (c : Int) := by omega
    simp [Instr.sliceBounds, Instr.sliceBound, asIntOf, this, show ¬ c < m by omega]
  simp [run_underlying hu, Instr.slice, hb, run_size hie, hs, sliced]
theorem t_trunc {S : Sd} {t e sz n k m : Nat} {x hi : Operand} {xs : List D} {ki : IntKind} {mv : Int} [ht : TSlice E.P t e sz] (hx : S.ev x = some (.own n k)) (hox : okOp x = true) (hl : look n S.H = some (.row e sz false xs k)) (hh : S.ev hi = some (.d (.int ki mv))) (hoh : okOp hi = true) (em : mv = (m : Nat)) (hm : m ≤ xs.length) (hN : E.C.N.contains n = false) :
    GrowK E S ⟨some d, .slice t x none (some hi) none, ty, pos, af, gd⟩ (fun k' => { S with H := (n, .row e sz false (xs.take m) k') :: S.H }) (fun k' => .own n k') := GrowK.mk fun β a w h => by
  subst em
  obtain ⟨ad, c, h1, h2, h3⟩ := h.trunc hl hm _ (Nat.le_refl _) hN
  have h4 : a.eval x = (β n).v := h.ev hx hox e sz false xs hl
  have h5 : a.eval hi = .int ki (m : Nat) := h.ev hh hoh
  refine ⟨.slice ad m c, w, _, _, ?_, h3, repV_own⟩
  have h6 := run_slice_hi (P := E.P) ht ad xs.length c m ki (by omega) w
  have h7 : sliced ad 0 m c sz = .slice ad m c := by
    unfold sliced
    cases ad with
    | none => simp
    | some p => simp [Addr.add]
  rw [h7] at h6
  obtain ⟨ie, hu, _⟩ := slice_parts ht
  simp [execOp, Instr.sliceAt, h4, h1, h5, h6, run_underlying hu]
end
end
end Go.Proofs.YtjhbglklcddekaaGreatDoor
