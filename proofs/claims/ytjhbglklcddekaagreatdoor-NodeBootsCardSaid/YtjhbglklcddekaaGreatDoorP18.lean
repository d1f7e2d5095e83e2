/- Parts: D29. -/
import Derived.Test.YtjhbglklcddekaaGreatDoorP17
set_option linter.all false
set_option maxRecDepth 100000
set_option maxHeartbeats 16000000
namespace Go.Proofs.YtjhbglklcddekaaGreatDoor
open Go.RowKit
section
section
variable {E : Set} {Q : Exit → Sd → Prop} {ops : Array Oper} {draw : Bool} {rest : Todo}
variable {env : List (Nat × V)} {H : List (Nat × Ob)} {gl : List (Nat × List D)}
theorem keep_wk {C : Ctx} (ts : List Nat) {env' : List (Nat × V)} {H' : List (Nat × Ob)} (hts : nodupN ts = true) (hk : Keep ts env env') (hh : KeepH [] H H') : Wk C ⟨env, H, gl⟩ ⟨env', H', gl⟩ := fun a w ⟨β, hB⟩ => ⟨β, hB.weak (fun t v hl => hk.look (nodupN_iff hts) hl) (fun n ob hl => by
    have := hh.look (n := n) (by simp)
    dsimp only at hl ⊢
    rw [← this]; exact hl) (fun _ _ h => h) (fun n hn => by
    have := hh.look (n := n) (by simp)
    dsimp only
    rw [this]; exact hB.has n hn)⟩
theorem tr_keep (ts : List Nat) {env' : List (Nat × V)} {H' : List (Nat × Ob)} (h : TR E draw ops Q rest ⟨env', H', gl⟩) (hts : nodupN ts = true := by exact rfl) (hk : Keep ts env env' := by (repeat (first | exact Keep.nil _ | apply Keep.drop rfl rfl | apply Keep.take rfl | apply Keep.ghost rfl)); fail_if_success intros) (hh : KeepH [] H H' := by (repeat (first | exact KeepH.nil _ | apply KeepH.take rfl | apply KeepH.drop rfl)); fail_if_success intros) : TR E draw ops Q rest ⟨env, H, gl⟩ :=
  fun a w hS => h a w (keep_wk ts hts hk hh a w hS)
theorem tr_weak {S S' : Sd} (hw : Wk E.C S S') (h : TR E draw ops Q rest S') : TR E draw ops Q rest S := fun a w hS => h a w (hw a w hS)
inductive Drop {α : Type} (ts : List Nat) : List (Nat × α) → List (Nat × α) → Prop
  | nil : Drop ts [] []
  | take {t : Nat} {v : α} {l r : List (Nat × α)} (h : memN t ts = false) (k : Drop ts l r) : Drop ts ((t, v) :: l) ((t, v) :: r)
  | drop {t : Nat} {v : α} {l r : List (Nat × α)} (h : memN t ts = true) (k : Drop ts l r) : Drop ts ((t, v) :: l) r
theorem tc_famx {c : Code} {ι : Type} (ts ns : List Nat) (ch : ι → List (Nat × V)) (oh : ι → List (Nat × Ob)) (P : ι → Prop) (m : ι → Nat) (i0 : ι) {env' : List (Nat × V)} {H' : List (Nat × Ob)} (hp : P i0) (_hd : Drop ts env env') (_hn : Drop ns H H')
    (h0 : Wk E.C ⟨env, H, gl⟩ ⟨ch i0 ++ env', oh i0 ++ H', gl⟩) (round : ∀ i, P i → TC E c (Exit.thenD (fun S' => ∃ j, P j ∧ m j < m i ∧ Wk E.C S' ⟨ch j ++ env', oh j ++ H', gl⟩) Q) ⟨ch i ++ env', oh i ++ H', gl⟩) : TC E (.loop c) Q ⟨env, H, gl⟩ :=
  tc_fam (fun i => ⟨ch i ++ env', oh i ++ H', gl⟩) P m i0 hp h0 round
end
inductive Pures : List V → Prop
  | nil : Pures []
  | cons {v : V} {vs : List V} (h : Pure v) (t : Pures vs) : Pures (v :: vs)
theorem Pures.all {vs : List V} (h : Pures vs) : ∀ v ∈ vs, Pure v := by
  induction h with
  | nil => intro v hv; cases hv
  | cons h _ ih =>
    intro v hv
    rcases List.mem_cons.1 hv with rfl | hv
    · exact h
    · exact ih v hv
theorem Drop.look {α : Type} {ts : List Nat} {l r : List (Nat × α)} (h : Drop ts l r) : ∀ {n : Nat} {v : α}, Go.Proofs.YtjhbglklcddekaaGreatDoor.look n r = some v → Go.Proofs.YtjhbglklcddekaaGreatDoor.look n l = some v := by
  have key : ∀ {n : Nat} {v : α}, Go.Proofs.YtjhbglklcddekaaGreatDoor.look n r = some v → memN n ts = false ∧ Go.Proofs.YtjhbglklcddekaaGreatDoor.look n l = some v := by
    induction h with
    | nil => intro n v h; cases h
    | @take t u l r h k ih =>
      intro n v hl
      rw [look_cons] at hl ⊢
      split at hl
      · rename_i e; subst e; exact ⟨h, by rw [if_pos rfl]; exact hl⟩
      · rename_i e; rw [if_neg e]; exact ih hl
    | @drop t u l r h k ih =>
      intro n v hl
      obtain ⟨h1, h2⟩ := ih hl
      refine ⟨h1, ?_⟩
      rw [look_cons, if_neg]
      · exact h2
      · rintro rfl; rw [h] at h1; cases h1
  intro n v hl
  exact (key hl).2
theorem tr_drop {E : Set} {Q : Exit → Sd → Prop} {ops : Array Oper} {draw : Bool} {rest : Todo} {env : List (Nat × V)} {H : List (Nat × Ob)} {gl : List (Nat × List D)} (ns : List Nat) {H' : List (Nat × Ob)} (hd : Drop ns H H') (hN : (E.C.N.all fun n => (look n H').isSome) = true) (h : TR E draw ops Q rest ⟨env, H', gl⟩) : TR E draw ops Q rest ⟨env, H, gl⟩ :=
  fun a w ⟨β, hB⟩ => h a w ⟨β, hB.weak (fun _ _ h => h) (fun n ob hl => hd.look hl) (fun _ _ h => h) (fun n hn => List.all_eq_true.1 hN n hn)⟩
theorem tr_drope {E : Set} {Q : Exit → Sd → Prop} {ops : Array Oper} {draw : Bool} {rest : Todo} {env : List (Nat × V)} {H : List (Nat × Ob)} {gl : List (Nat × List D)} (ts : List Nat) {env' : List (Nat × V)} (hd : Drop ts env env') (h : TR E draw ops Q rest ⟨env', H, gl⟩) : TR E draw ops Q rest ⟨env, H, gl⟩ :=
  fun a w ⟨β, hB⟩ => h a w ⟨β, hB.weak (fun n v hl => hd.look hl) (fun _ _ h => h) (fun _ _ h => h) hB.has⟩
section
variable {E : Set} {Q : Exit → Sd → Prop} {ops : Array Oper} {draw : Bool} {rest : Todo} {way : Way3} {ty : TypeId} {pos : String} {af : Array Edge} {gd : Option (Nat × Bool)}
variable {env : List (Nat × V)} {H : List (Nat × Ob)} {gl : List (Nat × List D)} {d : Nat}
theorem s_callG {f : Nat} {fx : Operand} {xs : List Operand} {ats : Array TypeId} {fs gs vs args : List V} {R : V → List (Nat × Ob) → Prop} [hf : TFun E.P f] (hfx : Sd.ev ⟨env, H, gl⟩ fx = some (.clo (.func f) fs gs)) (hof : okOp fx = true) (hx : Evs ⟨env, H, gl⟩ xs vs) (ha : ArgsE H (fs ++ vs ++ gs) args)
    (hc : FnE E.P gl f args [] R) (hp : Pures args) (hd : d < E.C.nt) (hg : Sd.gd ⟨env, H, gl⟩ ops ⟨some d, .call { callee := .value fx, args := xs.toArray, argTypes := ats }, ty, pos, af, gd⟩ = some true) (hw : way.loud = true)
    (h : ∀ v H1, R v H1 → freshNew ⟨env, H, gl⟩ [] H1 = true ∧ TR E draw ops Q rest ⟨(d, v) :: env, H1 ++ H, gl⟩) : TR E draw ops Q (.step ⟨some d, .call { callee := .value fx, args := xs.toArray, argTypes := ats }, ty, pos, af, gd⟩ way rest) ⟨env, H, gl⟩ := fun a w hS => by
  have hS0 := hS
  have key : ∀ w1, Grows w w1 → ∀ K : Act → World → Prop, (∀ v H1 a2 w2, R v H1 → Grows w1 w2 → St E.C ⟨(d, v) :: env, H1 ++ H, gl⟩ a2 w2 → K a2 w2) → (⟨some d, .call { callee := .value fx, args := xs.toArray, argTypes := ats }, ty, pos, af, gd⟩ : Oper).wp E.P a w1 K (Qof E.C Q) := fun w1 g K hK => by
    obtain ⟨β, hB⟩ := hS.later g
    obtain ⟨fs', gs', h1, h2, h3⟩ := hB.ev hfx hof
    unfold Oper.wp
    rw [run_callV hf a h1 xs ats (some d) w1, Oper.upon_enter]
    let M : Nat → Nat → Prop := fun b o => E.C.M0 b o ∨ ∃ m ob, look m H = some ob ∧ look m ([] : List (Nat × Ob)) = none ∧ own (β m) ob b ∧ ob.mut o
    have hMut : Mut M β [] = Mut E.C.M0 β H := by
      funext b o
      apply propext
      constructor
      · rintro ((hm | ⟨m, ob, q1, _, q2, q3⟩) | ⟨n, ob, q1, q2, q3⟩)
        · exact .inl hm
        · exact .inr ⟨m, ob, q1, q2, q3⟩
        · cases q1
      · rintro (hm | ⟨n, ob, q1, q2, q3⟩)
        · exact .inl (.inl hm)
        · exact .inl (.inr ⟨n, ob, q1, rfl, q2, q3⟩)
    have hargs := ha.rep hB (RepL.app (RepL.app h2 (hx.rep hB)) h3)
    refine (hc w1 M β _ ?_ ?_ ⟨(fun n ob hl => by cases hl), (fun n m b ob ob' hne q1 q2 => by cases q1), (fun n ob b o hl hb' hm => by cases hl)⟩ ?_).mono ?_
    · rintro b o (hm | ⟨m, ob, q1, _, q2, _⟩)
      · have := hB.low b o hm
        have := hB.frame.size
        omega
      · exact hB.old q1 q2
    · rw [hMut]
      exact RepL.pure (fun v hv u hu => (hp.all v hv).keep (Keeps.refl _ _) u hu) hargs
    · rw [hMut]
      exact hB.glob
    · rintro e w' ⟨v, x, H1, β1, hR, hok, rfl, hfr, hβ, hnew, ho, hv⟩
      obtain ⟨hf', _⟩ := h v H1 hR
      obtain ⟨β', hB', hv'⟩ := hB.called (H0 := []) (fun n ob hl => by cases hl) rfl rfl hok hfr hβ hnew ho hf' hv
      refine hK v H1 _ _ hR ?_ ⟨β', hB'.put hd hv'⟩
      have e0 : blks β [] = [] := rfl
      rw [e0] at hfr
      exact hfr.below
  cases draw with
  | true =>
    dsimp only
    cases way with
    | pure => cases hw
    | quiet => cases hw
    | grow =>
      simp only [wpMix3]
      intro n
      rw [Sd.gd_sound hS0 hg, if_pos rfl]
      exact key n.w n.grows _ fun v H1 a2 w2 hr g2 hs2 => ⟨g2, (h v H1 hr).2 _ _ hs2⟩
    | bar =>
      simp only [wpMix3]
      intro n
      rw [Sd.gd_sound hS0 hg, if_pos rfl]
      exact key n.w n.grows _ fun v H1 a2 w2 hr g2 hs2 => (h v H1 hr).2 _ _ hs2
  | false => exact listIn_of_wp hS0 hg rfl fun K hK => key w (Grows.refl w) K fun v H1 a2 w2 hr _ hs2 => hK _ _ ((h v H1 hr).2 _ _ hs2)
theorem z_iupdate (i : Nat) {t k e n : Nat} {x y z : Operand} {cs : List V} {v : V} {p : Int} [ht : TMap E.P t k e] [hkk : TKey E.P k (.int .i64)] (h : TR E draw ops Q rest ⟨env, (n, .imap (cs.set i v)) :: H, gl⟩) (hx : Sd.ev ⟨env, H, gl⟩ x = some (.map n) := by exact rfl) (hox : okOp x = true := by exact rfl) (hl : look n H = some (.imap cs) := by exact rfl)
    (hy : Sd.ev ⟨env, H, gl⟩ y = some (.d (.int .i64 p)) := by exact rfl) (hoy : okOp y = true := by exact rfl) (hz : Sd.ev ⟨env, H, gl⟩ z = some v := by exact rfl) (hoz : okOp z = true := by exact rfl) (hown : ownOk ⟨env, H, gl⟩ v = true := by first | exact rfl | exact ownOk_row rfl) (hp : p = (i : Nat) := by first | exact rfl | omega) (hi : i < cs.length := by first | decide | omega)
    (hg : Sd.gd ⟨env, H, gl⟩ ops ⟨none, .mapUpdate t x y z, ty, pos, af, gd⟩ = some true := by exact rfl) (hw : isBar draw way = true := by exact rfl) : TR E draw ops Q (.step ⟨none, .mapUpdate t x y z, ty, pos, af, gd⟩ way rest) ⟨env, H, gl⟩ :=
  tr_turn (t_iupdate hx hox hl hy hoy hz hoz hown hp hi) rfl hg rfl hw h
theorem z_ilookup (i : Nat) {t k e n sz : Nat} {x y : Operand} {cs : List V} {v : V} {p : Int} [ht : TMap E.P t k e] [hkk : TKey E.P k (.int .i64)] [hz : TZeroV E.P e (.nils sz)] (h : TR E draw ops Q rest ⟨(d, v) :: env, H, gl⟩) (hx : Sd.ev ⟨env, H, gl⟩ x = some (.map n) := by exact rfl) (hox : okOp x = true := by exact rfl) (hl : look n H = some (.imap cs) := by exact rfl)
    (hy : Sd.ev ⟨env, H, gl⟩ y = some (.d (.int .i64 p)) := by exact rfl) (hoy : okOp y = true := by exact rfl) (hp : p = (i : Nat) := by first | exact rfl | omega) (hv : cs[i]? = some v := by exact rfl) (hd : d < E.C.nt := by exact ltd rfl)
    (hg : Sd.gd ⟨env, H, gl⟩ ops ⟨some d, .lookup t x y false, ty, pos, af, gd⟩ = some true := by exact rfl) (hw : way.known = false := by exact rfl) : TR E draw ops Q (.step ⟨some d, .lookup t x y false, ty, pos, af, gd⟩ way rest) ⟨env, H, gl⟩ :=
  tr_quiet (q_ilookup hx hox hl hy hoy hp hv) rfl hd hg rfl hw h
end
end
end Go.Proofs.YtjhbglklcddekaaGreatDoor
