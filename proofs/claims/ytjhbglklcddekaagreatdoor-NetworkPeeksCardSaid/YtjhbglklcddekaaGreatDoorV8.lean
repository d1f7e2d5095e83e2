/- Parts: D18. -/
import Derived.Test.YtjhbglklcddekaaGreatDoorV7
set_option linter.all false
set_option maxRecDepth 100000
set_option maxHeartbeats 16000000
namespace Go.Proofs.YtjhbglklcddekaaGreatDoor
open Go.RowKit
section
def V.SameNames (β β' : Nat → Hd) (H H' : List (Nat × Ob)) (n : Nat) : Prop := (β' n).v = (β n).v ∧ ∀ e sz sh xs k, look n H' = some (.row e sz sh xs k) → ∃ sh' xs', look n H = some (.row e sz sh' xs' k)
mutual
theorem RepV.gen {w w' : World} {M M' : Nat → Nat → Prop} {β β' : Nat → Hd} {H H' : List (Nat × Ob)} (k : Keeps w M w' M') :
    ∀ (x : V) (v : Value), (∀ n, x.says n = true → V.SameNames β β' H H' n) → RepV w M β H x v → RepV w' M' β' H' x v
  | .d x, v, _, h => RepD.keep k x v h
  | .own n q, v, hs, h => fun e sz sh xs hl => by
    obtain ⟨h1, h2⟩ := hs n (by simp [V.says])
    obtain ⟨sh', xs', h3⟩ := h2 e sz sh xs q hl
    rw [h1]
    exact h e sz sh' xs' h3
  | .nils _, _, _, h => h
  | .zc, _, _, h => h
  | .ptr n off, _, hs, h => by simp only [RepV] at h ⊢; rw [(hs n (by simp [V.says])).1]; exact h
  | .sl n off _ _, _, hs, h => by simp only [RepV] at h ⊢; rw [(hs n (by simp [V.says])).1]; exact h
  | .el n q i off, v, hs, h => fun e sz sh xs hl => by
    obtain ⟨h1, h2⟩ := hs n (by simp [V.says])
    obtain ⟨sh', xs', h3⟩ := h2 e sz sh xs q hl
    rw [h1]
    exact h e sz sh' xs' h3
  | .suf n q p, v, hs, h => fun e sz sh xs hl => by
    obtain ⟨h1, h2⟩ := hs n (by simp [V.says])
    obtain ⟨sh', xs', h3⟩ := h2 e sz sh xs q hl
    rw [h1]
    exact h e sz sh' xs' h3
  | .win n q p m, v, hs, h => fun e sz sh xs hl => by
    obtain ⟨h1, h2⟩ := hs n (by simp [V.says])
    obtain ⟨sh', xs', h3⟩ := h2 e sz sh xs q hl
    rw [h1]
    exact h e sz sh' xs' h3
  | .map n, _, hs, h => by simp only [RepV] at h ⊢; rw [(hs n (by simp [V.says])).1]; exact h
  | .clo _ f c, _, hs, ⟨fs, gs, h1, h2, h3⟩ => ⟨fs, gs, h1, RepL.gen k f fs (fun n hn => hs n (by simp [V.says, hn])) h2, RepL.gen k c gs (fun n hn => hs n (by simp [V.says, hn])) h3⟩
  | .tup vs, _, hs, ⟨us, h1, h2⟩ => ⟨us, h1, RepL.gen k vs us (fun n hn => hs n (by simpa [V.says] using hn)) h2⟩
  | .agg vs, _, hs, ⟨us, h1, h0, h2⟩ => ⟨us, h1, h0, RepL.gen k vs us (fun n hn => hs n (by simpa [V.says] using hn)) h2⟩
  | .ifc _ x, _, hs, ⟨u, h1, h2⟩ => ⟨u, h1, RepV.gen k x u (fun n hn => hs n (by simpa [V.says] using hn)) h2⟩
  | .bsl n off _, _, hs, h => by simp only [RepV] at h ⊢; rw [(hs n (by simp [V.says])).1]; exact h
theorem RepL.gen {w w' : World} {M M' : Nat → Nat → Prop} {β β' : Nat → Hd} {H H' : List (Nat × Ob)} (k : Keeps w M w' M') :
    ∀ (xs : List V) (vs : List Value), (∀ n, saysL n xs = true → V.SameNames β β' H H' n) → RepL w M β H xs vs → RepL w' M' β' H' xs vs
  | [], _, _, h => h
  | x :: xs, _, hs, ⟨v, r, h1, h2, h3⟩ => ⟨v, r, h1, RepV.gen k x v (fun n hn => hs n (by simp [saysL, hn])) h2, RepL.gen k xs r (fun n hn => hs n (by simp [saysL, hn])) h3⟩
end
structure Obs (w : World) (M : Nat → Nat → Prop) (β : Nat → Hd) (H : List (Nat × Ob)) : Prop where
  obs : ∀ n ob, look n H = some ob → RepO w (Mut M β H) β H (β n) ob
  apart : ∀ n m b ob ob', n ≠ m → look n H = some ob → look m H = some ob' → own (β n) ob b → ¬ own (β m) ob' b
  out : ∀ n ob b o, look n H = some ob → own (β n) ob b → ¬ M b o
def blks (β : Nat → Hd) (H : List (Nat × Ob)) : List Nat := H.flatMap fun p => match look p.1 H with | some ob => blk (β p.1) ob | none => []
def keyIn (H : List (Nat × Ob)) (n : Nat) : Bool := (look n H).isSome
def wholeMut (H : List (Nat × Ob)) : Bool := H.all fun p => match p.2 with | .row _ _ sh _ _ => !sh | _ => true
mutual
def V.within (p : Nat → Bool) : V → Bool
  | .d _ => true
  | .own n _ => p n
  | .nils _ => true
  | .zc => true
  | .ptr n _ => p n
  | .sl n _ _ _ => p n
  | .el n _ _ _ => p n
  | .suf n _ _ => p n
  | .win n _ _ _ => p n
  | .map n => p n
  | .clo _ f c => withinL p f && withinL p c
  | .tup vs => withinL p vs
  | .agg vs => withinL p vs
  | .ifc _ x => x.within p
  | .bsl n _ _ => p n
def withinL (p : Nat → Bool) : List V → Bool
  | [] => true
  | v :: r => v.within p && withinL p r
end
mutual
theorem V.within_says {p : Nat → Bool} : ∀ {v : V}, v.within p = true → ∀ n, v.says n = true → p n = true
  | .d _, _, n, h => by simp [V.says] at h
  | .own m _, h, n, h' => by simp only [V.says] at h'; rw [← Nat.eq_of_beq_eq_true h']; exact h
  | .nils _, _, n, h => by simp [V.says] at h
  | .zc, _, n, h => by simp [V.says] at h
  | .ptr m _, h, n, h' => by simp only [V.says] at h'; rw [← Nat.eq_of_beq_eq_true h']; exact h
  | .sl m _ _ _, h, n, h' => by simp only [V.says] at h'; rw [← Nat.eq_of_beq_eq_true h']; exact h
  | .el m _ _ _, h, n, h' => by simp only [V.says] at h'; rw [← Nat.eq_of_beq_eq_true h']; exact h
  | .suf m _ _, h, n, h' => by simp only [V.says] at h'; rw [← Nat.eq_of_beq_eq_true h']; exact h
  | .win m _ _ _, h, n, h' => by simp only [V.says] at h'; rw [← Nat.eq_of_beq_eq_true h']; exact h
  | .map m, h, n, h' => by simp only [V.says] at h'; rw [← Nat.eq_of_beq_eq_true h']; exact h
  | .clo _ f c, h, n, h' => by
    simp only [V.says, Bool.or_eq_true] at h'
    simp only [V.within, Bool.and_eq_true] at h
    rcases h' with h' | h'
    · exact within_saysL h.1 n h'
    · exact within_saysL h.2 n h'
  | .tup vs, h, n, h' => within_saysL (by simpa [V.within] using h) n (by simpa [V.says] using h')
  | .agg vs, h, n, h' => within_saysL (by simpa [V.within] using h) n (by simpa [V.says] using h')
  | .bsl m _ _, h, n, h' => by simp only [V.says] at h'; rw [← Nat.eq_of_beq_eq_true h']; exact h
  | .ifc _ x, h, n, h' => V.within_says (v := x) (by simpa [V.within] using h) n (by simpa [V.says] using h')
theorem within_saysL {p : Nat → Bool} : ∀ {vs : List V}, withinL p vs = true → ∀ n, saysL n vs = true → p n = true
  | [], _, n, h => by simp [saysL] at h
  | v :: r, h, n, h' => by
    simp only [saysL, Bool.or_eq_true] at h'
    simp only [withinL, Bool.and_eq_true] at h
    rcases h' with h' | h'
    · exact V.within_says h.1 n h'
    · exact within_saysL h.2 n h'
end
def closedH (H : List (Nat × Ob)) : Bool := H.all fun p => withinL (keyIn H) p.2.cells
def rowsOk (H0 H1 : List (Nat × Ob)) : Bool := H1.all fun p => match p.2 with
  | .row e sz _ _ k => (match look p.1 H0 with | none => true | some (.row e' sz' _ _ k') => Nat.beq e e' && Nat.beq sz sz' && Nat.beq k k' | _ => false)
  | _ => true
def keysOk (H0 H1 : List (Nat × Ob)) : Bool := H0.all fun p => keyIn H1 p.1
def endOk (H0 H1 : List (Nat × Ob)) (v : V) : Bool := keysOk H0 H1 && rowsOk H0 H1 && closedH H1 && v.within (keyIn H1)
theorem look_in {H : List (Nat × Ob)} {n : Nat} {ob : Ob} (h : look n H = some ob) : (n, ob) ∈ H := look_mem h
theorem look_some {H : List (Nat × Ob)} {p : Nat × Ob} (h : p ∈ H) : ∃ ob, look p.1 H = some ob := by
  induction H with
  | nil => cases h
  | cons q H ih =>
    rw [show q = (q.1, q.2) from rfl, look_cons]
    split
    · exact ⟨_, rfl⟩
    · rename_i hne
      rcases List.mem_cons.1 h with rfl | h
      · exact absurd rfl hne
      · exact ih h
theorem mem_blks {β : Nat → Hd} {H : List (Nat × Ob)} {b : Nat} : b ∈ blks β H ↔ ∃ n ob, look n H = some ob ∧ own (β n) ob b := by
  unfold blks
  rw [List.mem_flatMap]
  constructor
  · rintro ⟨p, h1, h2⟩
    obtain ⟨ob, h3⟩ := look_some h1
    rw [h3] at h2
    exact ⟨p.1, ob, h3, mem_blk.1 h2⟩
  · rintro ⟨n, ob, h1, h2⟩
    refine ⟨(n, ob), look_in h1, ?_⟩
    dsimp only
    rw [h1]
    exact mem_blk.2 h2
theorem wholeMut_mut {H : List (Nat × Ob)} (h : wholeMut H = true) {n : Nat} {ob : Ob} (hl : look n H = some ob) (o : Nat) : ob.mut o := by
  have := List.all_eq_true.1 h _ (look_in hl)
  cases ob with
  | row e sz sh xs k => simp only [Bool.not_eq_true'] at this; exact .inl this
  | _ => trivial
def FnE (P : Program) (gl : List (Nat × List D)) (f : FuncId) (args : List V) (H0 : List (Nat × Ob)) (R : V → List (Nat × Ob) → Prop) : Prop :=
  ∀ (w : World) (M : Nat → Nat → Prop) (β : Nat → Hd) (us : List Value), (∀ b o, M b o → b < w.heap.size) → RepL w (Mut M β H0) β H0 args us → Obs w M β H0 → Globs gl w (Mut M β H0) →
    Calls P f us.toArray w fun e w' => ∃ v x H1 β1, R v H1 ∧ endOk H0 H1 v = true ∧ e = .returned x ∧ Frm (blks β H0) w w' ∧ (∀ n, (look n H0).isSome = true → (β1 n).v = (β n).v) ∧
      (∀ n ob b, look n H1 = some ob → own (β1 n) ob b → b ∈ blks β H0 ∨ w.heap.size ≤ b) ∧ Obs w' M β1 H1 ∧ RepV w' (Mut M β1 H1) β1 H1 v x
inductive ArgE (H : List (Nat × Ob)) : V → V → Prop
  | own {n k e sz : Nat} {xs : List D} (h : look n H = some (.row e sz true xs k)) : ArgE H (.own n k) (.d (.list sz xs))
  | nils (sz : Nat) : ArgE H (.nils sz) (.d (.list sz []))
  | same (v : V) : ArgE H v v
inductive ArgsE (H : List (Nat × Ob)) : List V → List V → Prop
  | nil : ArgsE H [] []
  | cons {v v' : V} {vs vs' : List V} (h : ArgE H v v') (t : ArgsE H vs vs') : ArgsE H (v :: vs) (v' :: vs')
theorem ArgE.rep {C : Ctx} {β : Nat → Hd} {S : Sd} {a : Act} {w : World} (h : StB C β S a w) {v v' : V} (ha : ArgE S.H v v') {u : Value} (hu : RepV w (Mut C.M0 β S.H) β S.H v u) : RepV w (Mut C.M0 β S.H) β S.H v' u := by
  cases ha with
  | own hl => exact (ToD.own hl).rep h hu
  | nils sz => exact (ToD.nils sz).rep h hu
  | same => exact hu
theorem ArgsE.rep {C : Ctx} {β : Nat → Hd} {S : Sd} {a : Act} {w : World} (h : StB C β S a w) {vs vs' : List V} (ha : ArgsE S.H vs vs') : ∀ {us : List Value}, RepL w (Mut C.M0 β S.H) β S.H vs us → RepL w (Mut C.M0 β S.H) β S.H vs' us := by
  induction ha with
  | nil => intro us h; exact h
  | cons h1 _ ih => intro us hu; obtain ⟨u, r, h2, h3, h4⟩ := hu; exact ⟨u, r, h2, h1.rep h h3, ih h4⟩
inductive ResE (P : Program) (S : Sd) : List ResultVar → List V → Prop
  | nil : ResE P S [] []
  | tmp {t : Tmp} {v v' : V} {rs : List ResultVar} {vs : List V} (hl : S.ev (.tmp t) = some v) (ha : ArgE S.H v v') (h : ResE P S rs vs) : ResE P S (.tmp t :: rs) (v' :: vs)
  | cell {t n ty off : Nat} {cs : List V} {v v' : V} {rs : List ResultVar} {vs : List V} [ht : TCell P ty] (hl : S.ev (.tmp t) = some (.ptr n off)) (hb : look n S.H = some (.box cs)) (hc : cs[off]? = some v) (ha : ArgE S.H v v') (h : ResE P S rs vs) : ResE P S (.cell t ty :: rs) (v' :: vs)
  | cells {t n ty off m : Nat} {cs cs' : List V} {ds : List D} {rs : List ResultVar} {vs : List V} [ht : TAgg P ty m] (hl : S.ev (.tmp t) = some (.ptr n off)) (hb : look n S.H = some (.box cs)) (hc : Cut cs off m cs') (ha : ToDs S.H cs' ds) (hn : ds.all D.scalar = true) (h : ResE P S rs vs) : ResE P S (.cell t ty :: rs) (.d (.agg ds) :: vs)
theorem resE_run {P : Program} {C : Ctx} {β : Nat → Hd} {S : Sd} {a : Act} {w : World} (h : StB C β S a w) {rs : List ResultVar} {vs : List V} (hr : ResE P S rs vs) :
    ∃ us : List Value, (rs.mapM fun | .tmp t => pure (a.tmps.getD t undef) | .cell c t => do loadVar t (← asAddr (a.tmps.getD c undef)) : Sem (List Value)).run P w = .ok us w ∧ RepL w (Mut C.M0 β S.H) β S.H vs us := by
  induction hr with
  | nil => exact ⟨[], rfl, rfl⟩
  | @tmp t v v' rs vs hl ha hr ih =>
    obtain ⟨us, h1, h2⟩ := ih
    have h5 : RepV w (Mut C.M0 β S.H) β S.H v (a.tmps.getD t undef) := h.ev hl rfl
    refine ⟨a.tmps.getD t undef :: us, ?_, ⟨_, us, rfl, ha.rep h h5, h2⟩⟩
    simp only [List.mapM_cons, Sem.run_bind, Sem.run_pure, Result.andThen_ok, h1]
  | @cell t n ty off cs v v' rs vs ht hl hb hc ha hr ih =>
    obtain ⟨us, h1, h2⟩ := ih
    obtain ⟨x, h4, h5⟩ := (q_load_box (t := ty) (E := ⟨P, C, none⟩) (S := S) (dst := none) (ty := 0) (pos := "") (af := #[]) (gd := none) (x := .tmp t) hl hb hc).out β a w h
    obtain ⟨b, _, _, _, h6, _⟩ := h.boxAt (x := .tmp t) hl hb
    have h7 := run_load_var h6 (h4 w (Grows.refl w))
    refine ⟨x :: us, ?_, ⟨x, us, rfl, ha.rep h h5, h2⟩⟩
    simp only [List.mapM_cons, Sem.run_bind] at h7 ⊢
    rw [h7]
    simp only [Result.andThen_ok, h1, Sem.run_pure]
  | @cells t n ty off m cs cs' ds rs vs ht hl hb hc ha hn hr ih =>
    obtain ⟨us, h1, h2⟩ := ih
    obtain ⟨x, h4, h5⟩ := (q_load_boxs (t := ty) (E := ⟨P, C, none⟩) (S := S) (dst := none) (ty := 0) (pos := "") (af := #[]) (gd := none) (x := .tmp t) hl hb hc ha hn).out β a w h
    obtain ⟨b, _, _, _, h6, _⟩ := h.boxAt (x := .tmp t) hl hb
    have h7 := run_load_var h6 (h4 w (Grows.refl w))
    refine ⟨x :: us, ?_, ⟨x, us, rfl, h5, h2⟩⟩
    simp only [List.mapM_cons, Sem.run_bind] at h7 ⊢
    rw [h7]
    simp only [Result.andThen_ok, h1, Sem.run_pure]
structure EndsE (P : Program) (rs : List ResultVar) (H0 : List (Nat × Ob)) (R : V → List (Nat × Ob) → Prop) (e : Exit) (S : Sd) : Prop where
  how : e = .ret ∨ e = .normal
  res : ∃ vs H1, ResE P S rs vs ∧ Sub S.H H1 ∧ endOk H0 H1 (oneOf vs) = true ∧ R (oneOf vs) H1
theorem noPanic_endsE {P : Program} {rs : List ResultVar} {H0 : List (Nat × Ob)} {R : V → List (Nat × Ob) → Prop} : noPanic (EndsE P rs H0 R) := fun c S h => by rcases h.how with h | h <;> cases h
theorem fnE_intro {P : Program} {gl : List (Nat × List D)} {f : FuncId} {fn : Func} {c : Code} {args : List V} {H0 : List (Nat × Ob)} {R : V → List (Nat × Ob) → Prop} {nt : Nat} {rs : Array ResultVar} (hf : P.funcs[f]? = some fn) (hb' : fn.body = some c) (hn : fn.ntmps = nt) (hr : fn.results = rs) (hle : args.length ≤ nt) (hs : nt ≤ 100000)
    (h : ∀ w M E b0, TC ⟨P, ⟨nt, E, w, M, H0.map (·.1), b0, fun _ => .nilFunc, []⟩, none⟩ c (EndsE P rs.toList H0 R) ⟨slots args, H0, gl⟩) : FnE P gl f args H0 R := fun w M β us hlow hargs hobs hgl => by
  have hlen := hargs.length
  refine calls_of_tc hf hb' (h w M (blks β H0) fun n => (β n).v) ?_ fun e S' β1 a' w' hB hq => ⟨hq.how, ?_⟩
  · refine ⟨β, ⟨?_, hs, ⟨[], rfl, List.nodup_nil, (fun D h => by cases h)⟩, (fun p hp => by cases hp), ?_, hobs.obs, hobs.apart, (fun n ob b hl hb' => .inl (mem_blks.2 ⟨n, ob, hl, hb'⟩)), hgl, Frm.refl _ _, hobs.out, hlow, (fun n hn => rfl), (fun n hn => ?_)⟩⟩
    · simp [hn]; omega
    · intro t v hl
      dsimp only at hl ⊢
      rw [hn]
      exact env_args hargs hle hs hl
    · obtain ⟨p, h1, rfl⟩ := List.mem_map.1 hn
      obtain ⟨ob, h2⟩ := look_some h1
      simp [h2]
  · obtain ⟨_, vs, H1, hres, hsub, hok, hR⟩ := hq
    obtain ⟨us', h3, h4⟩ := resE_run hB hres
    have hok' := hok
    unfold endOk at hok'
    simp only [Bool.and_eq_true] at hok'
    obtain ⟨⟨⟨k1, k2⟩, k3⟩, k5⟩ := hok'
    have hB1 := hB.weak (S' := { S' with H := H1 }) (fun _ _ h => h) (fun n ob h => hsub.look h) (fun _ _ h => h) (fun n hn => by
      obtain ⟨p, h1, rfl⟩ := List.mem_map.1 hn
      exact List.all_eq_true.1 k1 p h1)
    have hN : ∀ n, (look n H0).isSome = true → (β1 n).v = (β n).v := fun n hn => hB.fix n (by
      cases hl : look n H0 with
      | none => rw [hl] at hn; cases hn
      | some ob => exact List.mem_map.2 ⟨_, look_in hl, rfl⟩)
    have hrep := rep_oneOf h4
    have hk : Keeps w' (Mut M β1 S'.H) w' (Mut M β1 H1) := Keeps.weak fun b o hm => by
      rcases hm with hm | ⟨n, ob, h5, h6, h7⟩
      · exact .inl hm
      · exact .inr ⟨n, ob, hsub.look h5, h6, h7⟩
    refine ⟨_, run_results hr h3, oneOf vs, _, H1, β1, hR, hok, rfl, hB.frame, hN, fun n ob b h5 h6 => hB1.place n ob b h5 h6, ⟨hB1.obs, hB1.apart, hB1.out⟩, RepV.keep hk (fun _ => rfl) (fun n e sz sh xs k hl => ⟨sh, xs, hsub.look hl⟩) _ _ hrep⟩
section
variable {E : Set} {Q : Exit → Sd → Prop} {S : Sd} {ops : Array Oper} {draw : Bool} {rest : Todo} {way : Way3} {ty : TypeId} {pos : String} {af : Array Edge} {gd : Option (Nat × Bool)}
theorem tr_calls {d : Nat} {o : Oper} (hdst : o.dst = some d) (hd : d < E.C.nt) (hg : S.gd ops o = some true) (hdf : isDefer o = false) (hw : isBar draw way = true)
    (hrun : ∀ β a w, StB E.C β S a w → ∃ f us, (execOp a.eval o).run E.P w = .ok (.enter f us) w ∧ Calls E.P f us w fun e w' => ∃ x S' β' v, e = .returned x ∧ StB E.C β' S' a w' ∧ RepV w' (Mut E.C.M0 β' S'.H) β' S'.H v x ∧ TR E draw ops Q rest (S'.put d v)) :
    TR E draw ops Q (.step o way rest) S := fun a w hS => by
  have hS0 := hS
  have key : ∀ w1, Grows w w1 → ∀ K : Act → World → Prop, (∀ S2 a2 w2, St E.C S2 a2 w2 → TR E draw ops Q rest S2 → K a2 w2) → o.wp E.P a w1 K (Qof E.C Q) := fun w1 g K hK => by
    obtain ⟨β, hB⟩ := hS.later g
    obtain ⟨f, us, h1, h2⟩ := hrun β a w1 hB
    unfold Oper.wp
    rw [h1, Oper.upon_enter]
    refine h2.mono ?_
    rintro e w2 ⟨x, S', β', v, rfl, h3, h4, h5⟩
    refine hK (S'.put d v) _ _ ?_ h5
    rw [hdst]
    exact ⟨β', h3.put hd h4⟩
  cases draw with
  | true =>
    dsimp only
    cases way with
    | pure => cases hw
    | quiet => cases hw
    | grow => cases hw
    | bar =>
      simp only [wpMix3]
      intro n
      rw [Sd.gd_sound hS0 hg, if_pos rfl]
      exact key n.w n.grows _ fun S2 a2 w2 hs2 h => h _ _ hs2
  | false => exact listIn_of_wp hS0 hg hdf fun K hK => key w (Grows.refl w) K fun S2 a2 w2 hs2 h => hK _ _ (h _ _ hs2)
theorem run_callV {P : Program} {f : Nat} (hf : TFun P f) (a : Act) {fx : Operand} {fs gs : List Value} (he : a.eval fx = .func (.func f) fs.toArray gs.toArray) (xs : List Operand) (ats : Array TypeId) (dst : Option Tmp) (w : World) :
    (execOp a.eval ⟨dst, .call { callee := .value fx, args := xs.toArray, argTypes := ats }, ty, pos, af, gd⟩).run P w = .ok (.enter f (fs ++ xs.map a.eval ++ gs).toArray) w := by
  have := hf.ok
  unfold callOk at this
  cases hfn : P.funcs[f]? with
  | none => rw [hfn] at this; cases this
  | some fn =>
    rw [hfn] at this
    simp only [Bool.and_eq_true, Bool.not_eq_true'] at this
    have h2 : ¬ fn.name = "runtime.NumGoroutine" := by simpa using this.2
    cases hb : fn.body with
    | none => rw [hb] at this; cases this.1
    | some c => simp [execOp, resolve, he, Deferred.ofValue, invoke, callFunc, hfn, hb, h2]
theorem RepL.app {w : World} {M : Nat → Nat → Prop} {β : Nat → Hd} {H : List (Nat × Ob)} : ∀ {xs : List V} {us : List Value}, RepL w M β H xs us → ∀ {ys : List V} {vs : List Value}, RepL w M β H ys vs → RepL w M β H (xs ++ ys) (us ++ vs)
  | [], _, h, _, _, h' => by simp only [RepL] at h; subst h; exact h'
  | x :: xs, _, h, _, _, h' => by
    obtain ⟨v, r, rfl, h2, h3⟩ := h
    exact ⟨v, _, rfl, h2, RepL.app h3 h'⟩
theorem look_app (n : Nat) (H1 : List (Nat × Ob)) (H : List (Nat × Ob)) : look n (H1 ++ H) = match look n H1 with | some ob => some ob | none => look n H := by
  induction H1 with
  | nil => rfl
  | cons p H1 ih =>
    rw [List.cons_append, show p = (p.1, p.2) from rfl, look_cons, look_cons, ih]
    split <;> rfl
def freshNew (S : Sd) (H0 H1 : List (Nat × Ob)) : Bool := H1.all fun p => keyIn H0 p.1 || S.fresh p.1
def subH (H0 H : List (Nat × Ob)) : Prop := ∀ n ob, look n H0 = some ob → look n H = some ob
theorem StB.called {C : Ctx} {β β1 : Nat → Hd} {a : Act} {w w' : World} (h : StB C β S a w) {H0 H1 : List (Nat × Ob)} (hsub : subH H0 S.H) (hwm : wholeMut H0 = true) {M : Nat → Nat → Prop} (hM : M = fun b o => C.M0 b o ∨ ∃ m ob, look m S.H = some ob ∧ look m H0 = none ∧ own (β m) ob b ∧ ob.mut o) {v : V}
    (hok : endOk H0 H1 v = true) (hfr : Frm (blks β H0) w w') (hβ : ∀ n, (look n H0).isSome = true → (β1 n).v = (β n).v) (hnew : ∀ n ob b, look n H1 = some ob → own (β1 n) ob b → b ∈ blks β H0 ∨ w.heap.size ≤ b) (ho : Obs w' M β1 H1) (hf : freshNew S H0 H1 = true) {x : Value} (hv : RepV w' (Mut M β1 H1) β1 H1 v x) :
    ∃ β', StB C β' { S with H := H1 ++ S.H } a w' ∧ RepV w' (Mut C.M0 β' (H1 ++ S.H)) β' (H1 ++ S.H) v x := by
  subst hM
  unfold endOk at hok
  simp only [Bool.and_eq_true] at hok
  obtain ⟨⟨⟨k1, k2⟩, k3⟩, k5⟩ := hok
  let β' : Nat → Hd := fun n => if (look n H1).isSome then β1 n else β n
  have b1 : ∀ n ob, look n H1 = some ob → β' n = β1 n := fun n ob hl => by simp [β', hl]
  have b0 : ∀ n, look n H1 = none → β' n = β n := fun n hl => by simp [β', hl]
  -- a name of the state that is new in H1 is none
  have hin : ∀ n, (look n S.H).isSome = true → (look n H1).isSome = true → (look n H0).isSome = true := fun n h1 h2 => by
    cases hl : look n H1 with
    | none => rw [hl] at h2; cases h2
    | some ob =>
      have := List.all_eq_true.1 hf _ (look_in hl)
      simp only [Bool.or_eq_true] at this
      rcases this with this | this
      · exact this
      · rw [Sd.fresh_none this] at h1; cases h1
  have h01 : ∀ n, (look n H0).isSome = true → (look n H1).isSome = true := fun n h1 => by
    cases hl : look n H0 with
    | none => rw [hl] at h1; cases h1
    | some ob => exact List.all_eq_true.1 k1 _ (look_in hl)
  have bsame : ∀ n, (look n S.H).isSome = true → (β' n).v = (β n).v := fun n hn => by
    cases hl : look n H1 with
    | none => rw [b0 n hl]
    | some ob => rw [b1 n ob hl]; exact hβ n (hin n hn (by rw [hl]; rfl))
  -- what may be written afterwards
  have mut' : ∀ b o, Mut C.M0 β' (H1 ++ S.H) b o ↔ Mut (fun b o => C.M0 b o ∨ ∃ m ob, look m S.H = some ob ∧ look m H0 = none ∧ own (β m) ob b ∧ ob.mut o) β1 H1 b o := fun b o => by
    constructor
    · rintro (hm | ⟨n, ob, h1, h2, h3⟩)
      · exact .inl (.inl hm)
      · rw [look_app] at h1
        cases hl : look n H1 with
        | some ob1 =>
          rw [hl] at h1
          cases h1
          exact .inr ⟨n, ob, hl, by rw [← b1 n ob hl]; exact h2, h3⟩
        | none =>
          rw [hl] at h1
          rw [b0 n hl] at h2
          refine .inl (.inr ⟨n, ob, h1, ?_, h2, h3⟩)
          cases h0 : look n H0 with
          | none => rfl
          | some _ => have := h01 n (by rw [h0]; rfl); rw [hl] at this; cases this
    · rintro ((hm | ⟨m, ob, h1, h2, h3, h4⟩) | ⟨n, ob, h1, h2, h3⟩)
      · exact .inl hm
      · cases hl : look m H1 with
        | some ob1 => have := hin m (by rw [h1]; rfl) (by rw [hl]; rfl); rw [h2] at this; cases this
        | none => exact .inr ⟨m, ob, by rw [look_app, hl]; exact h1, by rw [b0 m hl]; exact h3, h4⟩
      · exact .inr ⟨n, ob, by rw [look_app, h1], by rw [b1 n ob h1]; exact h2, h3⟩
  have hmut : Mut C.M0 β' (H1 ++ S.H) = Mut (fun b o => C.M0 b o ∨ ∃ m ob, look m S.H = some ob ∧ look m H0 = none ∧ own (β m) ob b ∧ ob.mut o) β1 H1 := by
    funext b o
    exact propext (mut' b o)
  -- what stays
  have hblk : ∀ b, b < w.heap.size → b ∉ blks β H0 → w'.heap[b]? = w.heap[b]? := fun b hb' hn => hfr.block b hb' hn
  have hnb : ∀ b o, ¬ Mut C.M0 β S.H b o → b ∉ blks β H0 := fun b o hm hb' => by
    obtain ⟨n, ob, h1, h2⟩ := mem_blks.1 hb'
    exact hm (.inr ⟨n, ob, hsub n ob h1, h2, wholeMut_mut hwm h1 o⟩)
  have hmm : ∀ b o, b < w.heap.size → ¬ Mut C.M0 β S.H b o → ¬ Mut C.M0 β' (H1 ++ S.H) b o := fun b o hlt hm hm' => by
    rcases (mut' b o).1 hm' with (h1 | ⟨m, ob, h1, h2, h3, h4⟩) | ⟨n, ob, h1, h2, h3⟩
    · exact hm (.inl h1)
    · exact hm (.inr ⟨m, ob, h1, h3, h4⟩)
    · rcases hnew n ob b h1 h2 with h4 | h4
      · exact hnb b o hm h4
      · omega
  have kp : Keeps w (Mut C.M0 β S.H) w' (Mut C.M0 β' (H1 ++ S.H)) := by
    refine ⟨fun b o y h1 h2 => ?_, fun b ob _ h1 h2 => ?_⟩
    · have hlt : b < w.heap.size := World.block_lt_of_cell? w ⟨b, o, none⟩ h2
      refine ⟨hmm b o hlt h1, ?_⟩
      rw [← h2]
      exact World.cell?_of_block (hblk b hlt (hnb b o h1))
    · have hlt := (Array.getElem?_eq_some_iff.1 h2).1
      exact ⟨fun o => hmm b o hlt (h1 o), (hblk b hlt (hnb b 0 (h1 0))).trans h2⟩
  -- names
  have hrows : ∀ n, (look n S.H).isSome = true → V.SameNames β β' S.H (H1 ++ S.H) n := fun n hn => by
    refine ⟨bsame n hn, fun e sz sh xs k hl => ?_⟩
    rw [look_app] at hl
    cases h1 : look n H1 with
    | none => rw [h1] at hl; exact ⟨sh, xs, hl⟩
    | some ob =>
      rw [h1] at hl
      cases hl
      have := List.all_eq_true.1 k2 _ (look_in h1)
      dsimp only at this
      cases h0 : look n H0 with
      | none => have := hin n hn (by rw [h1]; rfl); rw [h0] at this; cases this
      | some ob0 =>
        rw [h0] at this
        cases ob0 with
        | row e' sz' sh' xs' k' =>
          simp only [Bool.and_eq_true] at this
          obtain ⟨⟨q1, q2⟩, q3⟩ := this
          obtain rfl := Nat.eq_of_beq_eq_true q1
          obtain rfl := Nat.eq_of_beq_eq_true q2
          obtain rfl := Nat.eq_of_beq_eq_true q3
          exact ⟨sh', xs', hsub n _ h0⟩
        | _ => cases this
  have hfresh : ∀ n, look n S.H = none → (look n H1).isSome = true → S.fresh n = true := fun n h1 h2 => by
    cases hl : look n H1 with
    | none => rw [hl] at h2; cases h2
    | some ob =>
      have := List.all_eq_true.1 hf _ (look_in hl)
      simp only [Bool.or_eq_true] at this
      rcases this with this | this
      · simp only [keyIn, Option.isSome_iff_exists] at this
        obtain ⟨ob0, h0⟩ := this
        rw [hsub n ob0 h0] at h1
        cases h1
      · exact this
  have hsame : ∀ n, (S.fresh n = true → False) → V.SameNames β β' S.H (H1 ++ S.H) n := fun n hn => by
    cases hl : look n S.H with
    | some ob => exact hrows n (by rw [hl]; rfl)
    | none =>
      cases h1 : look n H1 with
      | some ob => exact absurd (hfresh n hl (by rw [h1]; rfl)) hn
      | none =>
        refine ⟨congrArg Hd.v (b0 n h1), fun e sz sh xs k h2 => ?_⟩
        rw [look_app, h1, hl] at h2
        cases h2
  have hsys : ∀ D o, w.heap[D]? = some o → sysO o = true → w'.heap[D]? = some o := fun D o ho' hs' => by
    refine (hblk D (Array.getElem?_eq_some_iff.1 ho').1 (fun hb' => ?_)).trans ho'
    obtain ⟨n, ob, h1, h2⟩ := mem_blks.1 hb'
    exact (h.obs n ob (hsub n ob h1)).notSys ho' hs' h2
  obtain ⟨Ds, hd1, hd2, hd3⟩ := h.defers
  -- the new names' values
  have hclosed : ∀ (y : V) (u : Value), y.within (keyIn H1) = true → RepV w' (Mut (fun b o => C.M0 b o ∨ ∃ m ob, look m S.H = some ob ∧ look m H0 = none ∧ own (β m) ob b ∧ ob.mut o) β1 H1) β1 H1 y u → RepV w' (Mut C.M0 β' (H1 ++ S.H)) β' (H1 ++ S.H) y u := fun y u hy hu => by
    rw [hmut]
    refine RepV.gen (Keeps.refl _ _) y u (fun n hn => ?_) hu
    have := V.within_says hy n hn
    simp only [keyIn, Option.isSome_iff_exists] at this
    obtain ⟨ob, hl⟩ := this
    refine ⟨congrArg Hd.v (b1 n ob hl), fun e sz sh xs k h2 => ?_⟩
    rw [look_app, hl] at h2
    cases h2
    exact ⟨sh, xs, hl⟩
  have hclosedL : ∀ (ys : List V) (us : List Value), withinL (keyIn H1) ys = true → RepL w' (Mut (fun b o => C.M0 b o ∨ ∃ m ob, look m S.H = some ob ∧ look m H0 = none ∧ own (β m) ob b ∧ ob.mut o) β1 H1) β1 H1 ys us → RepL w' (Mut C.M0 β' (H1 ++ S.H)) β' (H1 ++ S.H) ys us := fun ys => by
    induction ys with
    | nil => intro us _ h; exact h
    | cons y ys ih =>
      intro us hy hu
      simp only [withinL, Bool.and_eq_true] at hy
      obtain ⟨u, r, rfl, h1, h2⟩ := hu
      exact ⟨u, r, rfl, hclosed y u hy.1 h1, ih r hy.2 h2⟩
  refine ⟨β', ⟨h.size, h.small, ⟨Ds, hd1, hd2, fun D hD => ⟨hsys D _ (hd3 D hD).1 rfl, (hd3 D hD).2⟩⟩, fun p hp => ⟨hsys _ _ (h.sys p hp).1 (h.sys p hp).2.1, (h.sys p hp).2⟩, fun t y hl => ?_, fun n ob hl => ?_, fun n m b ob ob' hne h1 h2 h3 => ?_, fun n ob b hl hb' => ?_, fun q cs hl => (h.glob q cs hl).keep kp, ?_, fun n ob b o hl hb' hm => ?_, h.low, fun n hn => ?_, fun n hn => ?_⟩, hclosed v x k5 hv⟩
  · obtain ⟨u, h1, h2⟩ := h.env t y hl
    refine ⟨u, h1, RepV.gen kp y u (fun n hn => hsame n fun hfr' => ?_) h2⟩
    simp only [Sd.fresh, Bool.and_eq_true] at hfr'
    rw [noneSays_look hfr'.1 hl] at hn
    cases hn
  · dsimp only at hl
    rw [look_app] at hl
    cases h1 : look n H1 with
    | some ob1 =>
      rw [h1] at hl
      cases hl
      have h2 := ho.obs n ob h1
      have h3 := List.all_eq_true.1 k3 _ (look_in h1)
      show RepO w' (Mut C.M0 β' (H1 ++ S.H)) β' (H1 ++ S.H) (β' n) ob
      rw [b1 n ob h1, hmut]
      refine RepO.keep (Keeps.refl _ _) (fun _ _ => rfl) (fun vs hL => ?_) h2
      rw [← hmut]
      exact hclosedL _ vs h3 hL
    | none =>
      rw [h1] at hl
      show RepO w' (Mut C.M0 β' (H1 ++ S.H)) β' (H1 ++ S.H) (β' n) ob
      rw [b0 n h1]
      refine RepO.keep kp (fun b hb' => ?_) (fun vs hL => ?_) (h.obs n ob hl)
      · refine hblk b (h.old hl hb') (fun hm => ?_)
        obtain ⟨m, ob', h2, h3⟩ := mem_blks.1 hm
        have hne : n ≠ m := by
          rintro rfl
          have := h01 n (by rw [h2]; rfl)
          rw [h1] at this
          cases this
        exact h.apart n m b ob ob' hne hl (hsub m ob' h2) hb' h3
      · have hs : ∀ m, saysL m ob.cells = true → V.SameNames β β' S.H (H1 ++ S.H) m := fun m hm => hsame m fun hfr' => by
          simp only [Sd.fresh, Bool.and_eq_true] at hfr'
          have := (noneSaysO_look hfr'.2 hl).2
          simp only [Ob.says] at this
          rw [hm] at this
          cases this
        exact RepL.gen kp _ vs hs hL
  · dsimp only at h1 h2
    rw [look_app] at h1 h2
    cases q1 : look n H1 with
    | some o1 =>
      rw [q1] at h1
      cases h1
      rw [b1 n _ q1] at h3
      cases q2 : look m H1 with
      | some o2 =>
        rw [q2] at h2
        cases h2
        rw [b1 m _ q2]
        exact ho.apart n m b _ _ hne q1 q2 h3
      | none =>
        rw [q2] at h2
        rw [b0 m q2]
        intro h4
        rcases hnew n _ b q1 h3 with h5 | h5
        · obtain ⟨q, oq, h6, h7⟩ := mem_blks.1 h5
          have hqm : q ≠ m := by
            rintro rfl
            have := h01 q (by rw [h6]; rfl)
            rw [q2] at this
            cases this
          exact h.apart q m b oq ob' hqm (hsub q oq h6) h2 h7 h4
        · have := h.old h2 h4
          omega
    | none =>
      rw [q1] at h1
      rw [b0 n q1] at h3
      cases q2 : look m H1 with
      | some o2 =>
        rw [q2] at h2
        cases h2
        rw [b1 m _ q2]
        intro h4
        rcases hnew m _ b q2 h4 with h5 | h5
        · obtain ⟨q, oq, h6, h7⟩ := mem_blks.1 h5
          have hqn : q ≠ n := by
            rintro rfl
            have := h01 q (by rw [h6]; rfl)
            rw [q1] at this
            cases this
          exact h.apart q n b oq ob hqn (hsub q oq h6) h1 h7 h3
        · have := h.old h1 h3
          omega
      | none =>
        rw [q2] at h2
        rw [b0 m q2]
        exact h.apart n m b ob ob' hne h1 h2 h3
  · dsimp only at hl
    rw [look_app] at hl
    cases q1 : look n H1 with
    | some o1 =>
      rw [q1] at hl
      cases hl
      rw [b1 n _ q1] at hb'
      rcases hnew n _ b q1 hb' with h5 | h5
      · obtain ⟨q, oq, h6, h7⟩ := mem_blks.1 h5
        exact h.place q oq b (hsub q oq h6) h7
      · exact .inr (Nat.le_trans h.frame.size h5)
    | none =>
      rw [q1] at hl
      rw [b0 n q1] at hb'
      exact h.place n ob b hl hb'
  · refine ⟨hfr.os.trans h.frame.os, hfr.tape.trans h.frame.tape, hfr.output.trans h.frame.output, Nat.le_trans h.frame.size hfr.size, fun i hi he => ?_⟩
    refine (hblk i (Nat.lt_of_lt_of_le hi h.frame.size) (fun hm => ?_)).trans (h.frame.block i hi he)
    obtain ⟨n, ob, h1, h2⟩ := mem_blks.1 hm
    rcases h.place n ob i (hsub n ob h1) h2 with h3 | h3
    · exact he h3
    · omega
  · dsimp only at hl
    rw [look_app] at hl
    cases q1 : look n H1 with
    | some o1 =>
      rw [q1] at hl
      cases hl
      rw [b1 n _ q1] at hb'
      exact ho.out n _ b o q1 hb' (.inl hm)
    | none =>
      rw [q1] at hl
      rw [b0 n q1] at hb'
      exact h.out n ob b o hl hb' hm
  · rw [bsame n (h.has n hn)]
    exact h.fix n hn
  · dsimp only
    rw [look_app]
    cases q1 : look n H1 with
    | some o1 => rfl
    | none => exact h.has n hn
inductive SubH (H : List (Nat × Ob)) : List (Nat × Ob) → Prop
  | nil : SubH H []
  | cons {n : Nat} {ob : Ob} {r : List (Nat × Ob)} (h : look n H = some ob) (k : SubH H r) : SubH H ((n, ob) :: r)
theorem SubH.sub {H H0 : List (Nat × Ob)} (h : SubH H H0) : subH H0 H := by
  induction h with
  | nil => intro n ob h; cases h
  | cons h1 _ ih =>
    intro n ob hl
    rw [look_cons] at hl
    split at hl
    · rename_i e; subst e; cases hl; exact h1
    · exact ih n ob hl
variable {env : List (Nat × V)} {H : List (Nat × Ob)} {gl : List (Nat × List D)} {d : Nat}
theorem s_callE {f : Nat} {fx : Operand} {xs : List Operand} {ats : Array TypeId} {fs gs vs args : List V} {H0 : List (Nat × Ob)} {R : V → List (Nat × Ob) → Prop} [hf : TFun E.P f] (hfx : Sd.ev ⟨env, H, gl⟩ fx = some (.clo (.func f) fs gs)) (hof : okOp fx = true) (hx : Evs ⟨env, H, gl⟩ xs vs) (ha : ArgsE H (fs ++ vs ++ gs) args)
    (hc : FnE E.P gl f args H0 R) (hs : SubH H H0) (hwm : wholeMut H0 = true) (hd : d < E.C.nt) (hg : Sd.gd ⟨env, H, gl⟩ ops ⟨some d, .call { callee := .value fx, args := xs.toArray, argTypes := ats }, ty, pos, af, gd⟩ = some true) (hw : isBar draw way = true)
    (h : ∀ v H1, R v H1 → freshNew ⟨env, H, gl⟩ H0 H1 = true ∧ TR E draw ops Q rest ⟨(d, v) :: env, H1 ++ H, gl⟩) : TR E draw ops Q (.step ⟨some d, .call { callee := .value fx, args := xs.toArray, argTypes := ats }, ty, pos, af, gd⟩ way rest) ⟨env, H, gl⟩ := by
  refine tr_calls rfl hd hg rfl hw fun β a w hB => ?_
  obtain ⟨fs', gs', h1, h2, h3⟩ := hB.ev hfx hof
  refine ⟨f, _, run_callV hf a h1 xs ats (some d) w, ?_⟩
  have hsub := hs.sub
  let M : Nat → Nat → Prop := fun b o => E.C.M0 b o ∨ ∃ m ob, look m H = some ob ∧ look m H0 = none ∧ own (β m) ob b ∧ ob.mut o
  have hMut : Mut M β H0 = Mut E.C.M0 β H := by
    funext b o
    apply propext
    constructor
    · rintro ((hm | ⟨m, ob, q1, _, q2, q3⟩) | ⟨n, ob, q1, q2, q3⟩)
      · exact .inl hm
      · exact .inr ⟨m, ob, q1, q2, q3⟩
      · exact .inr ⟨n, ob, hsub n ob q1, q2, q3⟩
    · rintro (hm | ⟨n, ob, q1, q2, q3⟩)
      · exact .inl (.inl hm)
      · cases h0 : look n H0 with
        | none => exact .inl (.inr ⟨n, ob, q1, h0, q2, q3⟩)
        | some ob0 =>
          have := hsub n ob0 h0
          rw [q1] at this
          cases this
          exact .inr ⟨n, ob, h0, q2, q3⟩
  have hrow : ∀ n e sz sh xs k, look n H0 = some (.row e sz sh xs k) → ∃ sh' xs', look n H = some (.row e sz sh' xs' k) := fun n e sz sh xs k hl => ⟨sh, xs, hsub n _ hl⟩
  have hargs := ha.rep hB ((RepL.app (RepL.app h2 (hx.rep hB)) h3))
  refine (hc w M β _ ?_ ?_ ⟨fun n ob hl => ?_, fun n m b ob ob' hne q1 q2 => hB.apart n m b ob ob' hne (hsub n ob q1) (hsub m ob' q2), fun n ob b o hl hb' hm => ?_⟩ ?_).mono ?_
  · rintro b o (hm | ⟨m, ob, q1, _, q2, _⟩)
    · have := hB.low b o hm
      have := hB.frame.size
      omega
    · exact hB.old q1 q2
  · rw [hMut]
    exact RepL.keep (Keeps.refl _ _) (fun _ => rfl) hrow _ _ hargs
  · rw [hMut]
    exact RepO.keep (Keeps.refl _ _) (fun _ _ => rfl) (fun vs hL => RepL.keep (Keeps.refl _ _) (fun _ => rfl) hrow _ _ hL) (hB.obs n ob (hsub n ob hl))
  · rcases hm with hm | ⟨m, ob', q1, q2, q3, _⟩
    · exact hB.out n ob b o (hsub n ob hl) hb' hm
    · have hne : n ≠ m := by rintro rfl; rw [hl] at q2; cases q2
      exact hB.apart n m b ob ob' hne (hsub n ob hl) q1 hb' q3
  · rw [hMut]
    exact hB.glob
  · rintro e w' ⟨v, x, H1, β1, hR, hok, rfl, hfr, hβ, hnew, ho, hv⟩
    obtain ⟨hf', hT⟩ := h v H1 hR
    obtain ⟨β', hB', hv'⟩ := hB.called hsub hwm rfl hok hfr hβ hnew ho hf' hv
    exact ⟨x, _, β', v, rfl, hB', hv', hT⟩
end
end
end Go.Proofs.YtjhbglklcddekaaGreatDoor
