/- Parts: D5, D6, D7. -/
import Derived.Test.YtjhbglklcddekaaGreatDoorV2
import Derived.Test.YtjhbglklcddekaaGreatDoorV3
import Derived.TacticsIn
set_option linter.all false
set_option maxRecDepth 100000
set_option maxHeartbeats 16000000
namespace Go.Proofs.YtjhbglklcddekaaGreatDoor
open Go.RowKit
section
def WF : Option Nat → Fence
  | none => Fence.wide
  | some l => Fence.wide.inRound l
theorem WF_fn (ρ : Option Nat) (f : FuncId) : (WF ρ).fn f := by cases ρ <;> trivial
theorem WF_depth (ρ : Option Nat) (n : Nat) : (WF ρ).depth.isSome = true → 1 ≤ n := by cases ρ <;> intro h <;> simp [WF, Fence.wide, Fence.inRound] at h
theorem callsIn_WF {ρ : Option Nat} {n : Nat} {P : Program} {f : FuncId} {args : Array Value} {w : World} {R : Ending → World → Prop} : CallsIn (WF ρ) n P f args w R ↔ Calls P f args w R := by
  cases ρ with
  | none => exact callsIn_wide
  | some l => exact callsIn_wide (n := n)
theorem wpIn_of_wp {ρ : Option Nat} {P : Program} {Q : Exit → Act → World → Prop} {o : Oper} {a : Act} {w : World} {K : Act → World → Prop} {n : Nat} (hd : ∀ c, o.op ≠ .defer c) (h : o.wp P a w K Q) : o.wpIn (WF ρ) n P a w K Q := by
  unfold Oper.wp at h
  refine ⟨fun _ _ => WF_fn ρ _, ?_⟩
  rw [Oper.semAt_eq _ _ _ hd]
  generalize (execOp a.eval o).run P w = r at *
  cases r with
  | ok x w' =>
    cases x <;> simp only [Oper.upon] at h <;> simp only [Oper.uponIn]
    case value v => exact h
    case skip => exact h
    case defer d => exact h
    case enter f args => exact ⟨WF_depth ρ n, callsIn_WF.2 h⟩
    case row row args =>
      refine ⟨WF_depth ρ n, fun c cs _ => ?_⟩
      obtain ⟨v, w'', h1, h2⟩ := h c cs
      refine ⟨v, w'', h1, ?_⟩
      cases ρ <;> exact stepsIn_wide.2 h2
  | halt x w' => cases x <;> simp only [Oper.upon] at h <;> simp only [Oper.uponIn] <;> exact h
structure Set where
  P : Program
  C : Ctx
  rd : Option Nat
def Qof (C : Ctx) (Q : Exit → Sd → Prop) : Exit → Act → World → Prop := fun e a w => ∃ S', St C S' a w ∧ Q e S'
def Todo.list : Todo → List Oper
  | .nil => []
  | .step o _ rest => o :: rest.list
  | .two _ _ _ _ => []
  | .mid _ _ _ _ => []
  | .or _ _ => []
  | .tail _ => []
def todo : List Oper → Todo
  | [] => .nil
  | o :: l => .step o .bar (todo l)
theorem todo_list : ∀ l : List Oper, (todo l).list = l
  | [] => rfl
  | o :: l => by simp [todo, Todo.list, todo_list l]
def TC (E : Set) (c : Code) (Q : Exit → Sd → Prop) (S : Sd) : Prop := ∀ a w, St E.C S a w → c.wpIn (WF E.rd) 0 E.P (Qof E.C Q) a w
def TR (E : Set) (draw : Bool) (ops : Array Oper) (Q : Exit → Sd → Prop) (l : Todo) (S : Sd) : Prop :=
  ∀ a w, St E.C S a w → match draw with
    | true => wpMix3 E.P ops (Qof E.C Q) l a w
    | false => wpListIn (WF E.rd) 0 E.P ops (Qof E.C Q) l.list a w
def noPanic (Q : Exit → Sd → Prop) : Prop := ∀ c S, ¬ Q (.panic c) S
section
variable {E : Set} {Q : Exit → Sd → Prop} {S : Sd}
theorem Qof_mono {C : Ctx} {Q Q' : Exit → Sd → Prop} (h : ∀ e S, Q e S → Q' e S) (e : Exit) (a : Act) (w : World) : Qof C Q e a w → Qof C Q' e a w := fun ⟨S', h1, h2⟩ => ⟨S', h1, h _ _ h2⟩
def Exit.thenD (K : Sd → Prop) (Q : Exit → Sd → Prop) : Exit → Sd → Prop
  | .normal, S => K S
  | e, S => Q e S
def Exit.inBlockD (id : Nat) (Q : Exit → Sd → Prop) : Exit → Sd → Prop
  | .exit id', S => if id' = id then Q .normal S else Q (.exit id') S
  | e, S => Q e S
theorem tc_seq {x y : Code} (h : ∀ K : Sd → Prop, (∀ S, TC E y Q S → K S) → TC E x (Exit.thenD K Q) S) : TC E (.seq x y) Q S := fun a w hS => by
  refine wpIn_seq (wpIn_mono (h (TC E y Q) (fun _ h => h) a w hS) fun e a w ⟨S', h1, h2⟩ => ?_)
  cases e
  case normal => exact h2 a w h1
  all_goals exact ⟨S', h1, h2⟩
theorem tc_skip (h : Q .normal S) : TC E .skip Q S := fun _ _ hS => wpIn_skip ⟨S, hS, h⟩
theorem tc_exit {id : Nat} (h : Q (.exit id) S) : TC E (.exit id) Q S := fun _ _ hS => wpIn_exit ⟨S, hS, h⟩
theorem tc_ret (h : Q .ret S) : TC E .ret Q S := fun _ _ hS => wpIn_ret ⟨S, hS, h⟩
theorem tc_block {id : Nat} {c : Code} (h : TC E c (Exit.inBlockD id Q) S) : TC E (.block id c) Q S := fun a w hS =>
  wpIn_block (wpIn_mono (h a w hS) fun e a w ⟨S', h1, h2⟩ => by
    cases e
    case exit id' =>
      simp only [Exit.inBlockD] at h2
      simp only [Exit.inBlock]
      split
      · rename_i he; rw [if_pos he] at h2; exact ⟨S', h1, h2⟩
      · rename_i he; rw [if_neg he] at h2; exact ⟨S', h1, h2⟩
    all_goals exact ⟨S', h1, h2⟩)
theorem tc_cond {c : Operand} {x y : Code} {b : Bool} (hc : S.ev c = some (.d (.bool b))) (ho : okOp c = true) (ht : b = true → TC E x Q S) (hf : b = false → TC E y Q S) : TC E (.cond c x y) Q S := fun a w hS => by
  obtain ⟨β, hB⟩ := hS
  have he : a.eval c = .bool b := hB.ev hc ho
  exact wpIn_cond_split he (fun h => ht h a w ⟨β, hB⟩) (fun h => hf h a w ⟨β, hB⟩)
theorem least {p : Nat → Prop} (h : ∃ m, p m) : ∃ m, p m ∧ ∀ k, p k → m ≤ k := by
  obtain ⟨m, hm⟩ := h
  induction m using Nat.strongRecOn with
  | _ m ih =>
    by_cases hk : ∃ k, k < m ∧ p k
    · obtain ⟨k, h1, h2⟩ := hk
      exact ih k h1 h2
    · exact ⟨m, hm, fun k h2 => Nat.le_of_not_lt fun h1 => hk ⟨k, h1, h2⟩⟩
open Classical in
noncomputable def leastOf (p : Nat → Prop) : Nat := if h : ∃ m, p m then Classical.choose (least h) else 0
theorem leastOf_spec {p : Nat → Prop} (h : ∃ m, p m) : p (leastOf p) ∧ ∀ k, p k → leastOf p ≤ k := by
  unfold leastOf
  rw [dif_pos h]
  exact Classical.choose_spec (least h)
theorem tc_loop {c : Code} (I : Sd → Prop) (μ : Sd → Nat) (h0 : I S)
    (round : ∀ S, I S → TC E c (Exit.thenD (fun S' => ∃ S'', (∀ a w, St E.C S' a w → St E.C S'' a w) ∧ I S'' ∧ μ S'' < μ S) Q) S) : TC E (.loop c) Q S := fun a w hS => by
  refine wpIn_loop (fun a w => ∃ m S, I S ∧ St E.C S a w ∧ μ S = m) (fun a w => leastOf fun m => ∃ S, I S ∧ St E.C S a w ∧ μ S = m) ⟨_, S, h0, hS, rfl⟩ fun a w hI => ?_
  obtain ⟨⟨S, h1, h2, h3⟩, _⟩ := leastOf_spec hI
  refine wpIn_mono (round S h1 a w h2) fun e a' w' ⟨S', h4, h5⟩ => ?_
  cases e
  case normal =>
    obtain ⟨S'', h6, h7, h8⟩ := h5
    refine ⟨⟨_, S'', h7, h6 _ _ h4, rfl⟩, ?_⟩
    have := (leastOf_spec (p := fun m => ∃ S, I S ∧ St E.C S a' w' ∧ μ S = m) ⟨_, S'', h7, h6 _ _ h4, rfl⟩).2 _ ⟨S'', h7, h6 _ _ h4, rfl⟩
    omega
  all_goals exact ⟨S', h4, h5⟩
theorem tc_weak {c : Code} {S' : Sd} (h : ∀ a w, St E.C S a w → St E.C S' a w) (h' : TC E c Q S') : TC E c Q S := fun a w hS => h' a w (h a w hS)
theorem tc_mono {c : Code} {Q' : Exit → Sd → Prop} (h : TC E c Q S) (hq : ∀ e S, Q e S → Q' e S) : TC E c Q' S := fun a w hS => wpIn_mono (h a w hS) fun e a w => Qof_mono hq e a w
theorem tc_region {id : Nat} {l : List Oper} (h : TR E false l.toArray Q (todo l) S) : TC E (.region id l.toArray false) Q S := fun a w hS => by
  have := h a w hS
  simp only [todo_list] at this
  exact wpIn_region_lit this
def nth {α : Type} : List α → Nat → Option α
  | [], _ => none
  | x :: _, 0 => some x
  | _ :: l, n + 1 => nth l n
theorem nth_eq {α : Type} : ∀ (l : List α) (n : Nat), nth l n = l[n]?
  | [], n => by simp [nth]
  | x :: l, 0 => rfl
  | x :: l, n + 1 => by simp [nth, nth_eq l n]
theorem nth_arr {α : Type} (a : Array α) (n : Nat) : nth a.toList n = a[n]? := by rw [nth_eq]; simp
def tailL (l : List Oper) : List (Nat × TW) → List (Oper × TW)
  | [] => []
  | (i, x) :: rest => match nth l i with
    | some o => (o, x) :: tailL l rest
    | none => []
theorem tailL_eq (ops : Array Oper) : ∀ l, tailL ops.toList l = tailOps ops l
  | [] => rfl
  | (i, x) :: rest => by simp only [tailL, tailOps, nth_arr, tailL_eq ops rest]; try (cases ops[i]? <;> rfl)
def planL (l : List Oper) : Plan → Todo
  | .nil => .nil
  | .step i x rest => match nth l i with
    | some o => .step o x (planL l rest)
    | none => .nil
  | .two i rest j rest' => match nth l i, nth l j with
    | some o, some o' => .two o (planL l rest) o' (planL l rest')
    | _, _ => .nil
  | .mid i rest j rest' => match nth l i, nth l j with
    | some o, some o' => .mid o (planL l rest) o' (planL l rest')
    | _, _ => .nil
  | .or x y => .or (planL l x) (planL l y)
  | .tail q => .tail (tailL l q)
theorem planL_eq (ops : Array Oper) : ∀ p, planL ops.toList p = planOps3 ops p
  | .nil => rfl
  | .step i x rest => by simp only [planL, planOps3, nth_arr, planL_eq ops rest]; try (cases ops[i]? <;> rfl)
  | .two i rest j rest' => by simp only [planL, planOps3, nth_arr, planL_eq ops rest, planL_eq ops rest']; try (cases ops[i]? <;> cases ops[j]? <;> rfl)
  | .mid i rest j rest' => by simp only [planL, planOps3, nth_arr, planL_eq ops rest, planL_eq ops rest']; try (cases ops[i]? <;> cases ops[j]? <;> rfl)
  | .or x y => by simp only [planL, planOps3, planL_eq ops x, planL_eq ops y]
  | .tail q => by simp only [planL, planOps3, tailL_eq]
theorem tc_draw {id : Nat} {ops : Array Oper} (bars : List Nat) (plan : Plan) (hm : E.P.follows .mixedOrders = true) (hs : Region.noSelect ops = true) (hd : noDefer ops = true) (hl : plan.len = ops.size) (hnd : bars.Nodup) (hev : plan.even = true)
    (hB : mixOk3 .any ops bars (Array.replicate ops.size false) plan = true) (hQ : noPanic Q) (h : TR E true ops Q (planL ops.toList plan) S) : TC E (.region id ops true) Q S := fun a w hS => by
  rw [planL_eq] at h
  have hQ' : ∀ c (a : Act) d v w, Qof E.C Q (.panic c) (a.put d v) w → Qof E.C Q (.panic c) a w := fun c a d v w ⟨S', _, h2⟩ => absurd h2 (hQ c S')
  have h1 := h a w hS
  cases hr : E.rd with
  | none => exact wpIn_wide.2 (wp_region_mix3 bars plan hm hs hl hnd hev hB hQ' h1)
  | some r => exact wpIn_region_mix3 bars plan hm hs hd hl hnd hev hB hQ' h1
variable {ops : Array Oper} {draw : Bool} {rest : Todo} {o : Oper} {way : Way3}
theorem tr_two {o o' : Oper} {rest rest' : Todo} (h : TR E true ops Q (.step o .grow rest) S) (h' : TR E true ops Q (.step o' .grow rest') S) : TR E true ops Q (.two o rest o' rest') S := fun a w hS => ⟨h a w hS, h' a w hS⟩
theorem tr_mid {o o' : Oper} {rest rest' : Todo} (h : TR E true ops Q (.step o .grow rest) S) (h' : TR E true ops Q (.step o' .bar rest') S) : TR E true ops Q (.mid o rest o' rest') S := fun a w hS => ⟨h a w hS, h' a w hS⟩
def Sd.gd (S : Sd) (ops : Array Oper) (o : Oper) : Option Bool :=
  match o.guard with
  | none => some true
  | some (j, want) => match (nth ops.toList j).bind (·.dst) with
    | some t => match S.ev (.tmp t) with
      | some (.d (.bool b)) => some (b == want)
      | some (.tup []) => some false
      | _ => none
    | none => none
theorem Sd.gd_sound {C : Ctx} {a : Act} {w : World} (hS : St C S a w) {b : Bool} (h : S.gd ops o = some b) : Region.wanted o (yielded ops a.tmps) = b := by
  obtain ⟨β, hB⟩ := hS
  unfold Sd.gd at h
  unfold Region.wanted
  cases hg : o.guard with
  | none => rw [hg] at h; simp at h; simp [h]
  | some p =>
    obtain ⟨j, want⟩ := p
    rw [hg] at h
    dsimp only at h ⊢
    rw [nth_arr] at h
    split at h
    · rename_i t ht
      split at h
      · rename_i b' hb'
        cases h
        simp only [Sd.ev] at hb'
        cases hlt : Nat.blt t 100000 with
        | false => rw [hlt] at hb'; cases hb'
        | true =>
          rw [hlt] at hb'
          obtain ⟨x, h1, h2⟩ := hB.env t _ hb'
          simp only [slotV, hlt, cond_true] at h1
          simp only [RepV, RepD] at h2
          subst h2
          unfold yielded
          simp only [ht, Option.bind_some, h1]
          cases b' <;> cases want <;> rfl
      · rename_i hb'
        cases h
        simp only [Sd.ev] at hb'
        cases hlt : Nat.blt t 100000 with
        | false => rw [hlt] at hb'; cases hb'
        | true =>
          rw [hlt] at hb'
          obtain ⟨x, h1, h2⟩ := hB.env t _ hb'
          simp only [slotV, hlt, cond_true] at h1
          simp only [RepV] at h2
          obtain ⟨us, h2, h3⟩ := h2
          subst h2
          unfold yielded
          simp only [ht, Option.bind_some, h1]
          cases want <;> rfl
      · cases h
    · cases h
theorem ltd {a b : Nat} (h : Nat.blt a b = true) : a < b := by simpa using h
structure Quiet (E : Set) (S : Sd) (o : Oper) (v : V) : Prop where
  out : ∀ β a w, StB E.C β S a w → ∃ x, (∀ w', Grows w w' → (execOp a.eval o).run E.P w' = .ok (.value x) w') ∧ RepV w (Mut E.C.M0 β S.H) β S.H v x
structure Swift (E : Set) (S : Sd) (o : Oper) (v : V) : Prop where
  out : ∀ β a w, StB E.C β S a w → ∃ x, (∀ w', True → (execOp a.eval o).run E.P w' = .ok (.value x) w') ∧ RepV w (Mut E.C.M0 β S.H) β S.H v x
structure Grow (E : Set) (S : Sd) (o : Oper) (S' : Sd) (v : V) : Prop where
  out : ∀ β a w, StB E.C β S a w → ∃ x w' β', (execOp a.eval o).run E.P w = .ok (.value x) w' ∧ Grows w w' ∧ StB E.C β' S' a w' ∧ RepV w' (Mut E.C.M0 β' S'.H) β' S'.H v x
structure Turn (E : Set) (S : Sd) (o : Oper) (S' : Sd) : Prop where
  out : ∀ β a w, StB E.C β S a w → ∃ w', (execOp a.eval o).run E.P w = .ok .skip w' ∧ St E.C S' a w'
structure TurnV (E : Set) (S : Sd) (o : Oper) (S' : Sd) (v : V) : Prop where
  out : ∀ β a w, StB E.C β S a w → ∃ x w' β', (execOp a.eval o).run E.P w = .ok (.value x) w' ∧ StB E.C β' S' a w' ∧ RepV w' (Mut E.C.M0 β' S'.H) β' S'.H v x
theorem wp_value {P : Program} {a : Act} {w w' : World} {x : Value} {K : Act → World → Prop} {R : Exit → Act → World → Prop} (h : (execOp a.eval o).run P w = .ok (.value x) w') (hk : K (a.put o.dst x) w') : o.wp P a w K R := by
  unfold Oper.wp
  rw [h]
  exact hk
theorem wp_skip' {P : Program} {a : Act} {w w' : World} {K : Act → World → Prop} {R : Exit → Act → World → Prop} (h : (execOp a.eval o).run P w = .ok .skip w') (hk : K (a.put o.dst undef) w') : o.wp P a w K R := by
  unfold Oper.wp
  rw [h]
  exact hk
def isDefer (o : Oper) : Bool := match o.op with | .defer _ => true | _ => false
theorem isDefer_spec (h : isDefer o = false) : ∀ c, o.op ≠ .defer c := fun c e => by simp [isDefer, e] at h
theorem listIn_of_wp {C : Ctx} {R : Exit → Act → World → Prop} {l : List Oper} {a : Act} {w : World} (hS : St C S a w) (hg : S.gd ops o = some true) (hd : isDefer o = false) {ρ : Option Nat} {P : Program}
    (h : ∀ K : Act → World → Prop, (∀ a w, wpListIn (WF ρ) 0 P ops R l a w → K a w) → o.wp P a w K R) : wpListIn (WF ρ) 0 P ops R (o :: l) a w :=
  wpListIn_step fun K hK => by
    rw [Sd.gd_sound hS hg, if_pos rfl]
    exact wpIn_of_wp (isDefer_spec hd) (h K hK)
def Way3.known : Way3 → Bool
  | .pure => true
  | _ => false
theorem tr_quiet {d : Nat} {v : V} (hq : Quiet E S o v) (hdst : o.dst = some d) (hd : d < E.C.nt) (hg : S.gd ops o = some true) (hdf : isDefer o = false) (hw : way.known = false) (h : TR E draw ops Q rest (S.put d v)) : TR E draw ops Q (.step o way rest) S := fun a w hS => by
  have hS0 := hS
  obtain ⟨β, hB⟩ := hS
  obtain ⟨x, h1, h2⟩ := hq.out β a w hB
  have hput : ∀ w', Grows w w' → St E.C (S.put d v) (a.put o.dst x) w' := fun w' g => by
    rw [hdst]
    exact St.later ⟨β, hB.put hd h2⟩ g
  cases draw with
  | true =>
    dsimp only
    cases way with
    | pure => cases hw
    | quiet =>
      simp only [wpMix3]
      rw [Sd.gd_sound hS0 hg, if_pos rfl]
      refine ⟨x, fun n => ?_, h _ _ (hput w (Grows.refl w))⟩
      rw [h1 n.w n.grows]
      exact ⟨rfl, rfl⟩
    | grow =>
      simp only [wpMix3]
      intro n
      rw [Sd.gd_sound hS0 hg, if_pos rfl]
      exact wp_value (h1 n.w n.grows) ⟨Grows.refl _, h _ _ (hput n.w n.grows)⟩
    | bar =>
      simp only [wpMix3]
      intro n
      rw [Sd.gd_sound hS0 hg, if_pos rfl]
      exact wp_value (h1 n.w n.grows) (h _ _ (hput n.w n.grows))
  | false => exact listIn_of_wp hS0 hg hdf fun K hK => wp_value (h1 w (Grows.refl w)) (hK _ _ (h _ _ (hput w (Grows.refl w))))
theorem tr_still {d : Nat} {v : V} (hq : Swift E S o v) (hdst : o.dst = some d) (hd : d < E.C.nt) (hg : S.gd ops o = some true) (hdf : isDefer o = false) (h : TR E draw ops Q rest (S.put d v)) : TR E draw ops Q (.step o way rest) S := fun a w hS => by
  have hS0 := hS
  obtain ⟨β, hB⟩ := hS
  obtain ⟨x, h1, h2⟩ := hq.out β a w hB
  have hput : ∀ w', Grows w w' → St E.C (S.put d v) (a.put o.dst x) w' := fun w' g => by
    rw [hdst]
    exact St.later ⟨β, hB.put hd h2⟩ g
  cases draw with
  | true =>
    dsimp only
    cases way with
    | pure =>
      simp only [wpMix3]
      rw [Sd.gd_sound hS0 hg, if_pos rfl]
      exact ⟨x, fun w' => h1 w' trivial, h _ _ (hput w (Grows.refl w))⟩
    | quiet =>
      simp only [wpMix3]
      rw [Sd.gd_sound hS0 hg, if_pos rfl]
      refine ⟨x, fun n => ?_, h _ _ (hput w (Grows.refl w))⟩
      rw [h1 n.w trivial]
      exact ⟨rfl, rfl⟩
    | grow =>
      simp only [wpMix3]
      intro n
      rw [Sd.gd_sound hS0 hg, if_pos rfl]
      exact wp_value (h1 n.w trivial) ⟨Grows.refl _, h _ _ (hput n.w n.grows)⟩
    | bar =>
      simp only [wpMix3]
      intro n
      rw [Sd.gd_sound hS0 hg, if_pos rfl]
      exact wp_value (h1 n.w trivial) (h _ _ (hput n.w n.grows))
  | false => exact listIn_of_wp hS0 hg hdf fun K hK => wp_value (h1 w trivial) (hK _ _ (h _ _ (hput w (Grows.refl w))))
theorem tr_pass {d : Nat} (hdst : o.dst = some d) (hd : d < E.C.nt) (hg : S.gd ops o = some false) (h : TR E draw ops Q rest (S.put d (.tup []))) : TR E draw ops Q (.step o way rest) S := fun a w hS => by
  have hS0 := hS
  have hput : ∀ w', Grows w w' → St E.C (S.put d (.tup [])) (a.put o.dst undef) w' := fun w' g => by
    obtain ⟨β, hB⟩ := hS.later g
    rw [hdst]
    exact ⟨β, hB.put hd ⟨[], rfl, rfl⟩⟩
  cases draw with
  | true =>
    dsimp only
    cases way with
    | pure =>
      simp only [wpMix3]
      rw [Sd.gd_sound hS0 hg, if_neg (by decide)]
      exact h _ _ (hput w (Grows.refl w))
    | quiet =>
      simp only [wpMix3]
      rw [Sd.gd_sound hS0 hg, if_neg (by decide)]
      exact h _ _ (hput w (Grows.refl w))
    | grow =>
      simp only [wpMix3]
      intro n
      rw [Sd.gd_sound hS0 hg, if_neg (by decide)]
      exact h _ _ (hput n.w n.grows)
    | bar =>
      simp only [wpMix3]
      intro n
      rw [Sd.gd_sound hS0 hg, if_neg (by decide)]
      exact h _ _ (hput n.w n.grows)
  | false =>
    refine wpListIn_step fun K hK => ?_
    rw [Sd.gd_sound hS0 hg, if_neg (by decide)]
    exact ⟨fun _ _ => WF_fn _ _, hK _ _ (h _ _ (hput w (Grows.refl w)))⟩
def Way3.loud : Way3 → Bool
  | .pure => false
  | .quiet => false
  | _ => true
theorem tr_grow {d : Nat} {S' : Sd} {v : V} (hq : Grow E S o S' v) (hdst : o.dst = some d) (hd : d < E.C.nt) (hg : S.gd ops o = some true) (hdf : isDefer o = false) (hw : way.loud = true) (h : TR E draw ops Q rest (S'.put d v)) : TR E draw ops Q (.step o way rest) S := fun a w hS => by
  have hS0 := hS
  have key : ∀ w1, Grows w w1 → ∀ K : Act → World → Prop, (∀ a2 w2, Grows w1 w2 → St E.C (S'.put d v) a2 w2 → K a2 w2) → o.wp E.P a w1 K (Qof E.C Q) := fun w1 g K hK => by
    obtain ⟨β, hB⟩ := hS.later g
    obtain ⟨x, w', β', h1, h2, h3, h4⟩ := hq.out β a w1 hB
    refine wp_value h1 (hK _ _ h2 ?_)
    rw [hdst]
    exact ⟨β', h3.put hd h4⟩
  cases draw with
  | true =>
    dsimp only
    cases way with
    | pure => cases hw
    | quiet => cases hw
    | grow =>
      simp only [wpMix3]
      intro n
      rw [Sd.gd_sound hS0 hg, if_pos rfl]
      exact key n.w n.grows _ fun a2 w2 g2 hs2 => ⟨g2, h _ _ hs2⟩
    | bar =>
      simp only [wpMix3]
      intro n
      rw [Sd.gd_sound hS0 hg, if_pos rfl]
      exact key n.w n.grows _ fun a2 w2 g2 hs2 => h _ _ hs2
  | false => exact listIn_of_wp hS0 hg hdf fun K hK => key w (Grows.refl w) K fun a2 w2 _ hs2 => hK _ _ (h _ _ hs2)
def isBar : Bool → Way3 → Bool
  | false, _ => true
  | true, .bar => true
  | true, _ => false
theorem tr_turn {S' : Sd} (hq : Turn E S o S') (hdst : o.dst = none) (hg : S.gd ops o = some true) (hdf : isDefer o = false) (hw : isBar draw way = true) (h : TR E draw ops Q rest S') : TR E draw ops Q (.step o way rest) S := fun a w hS => by
  have hS0 := hS
  have key : ∀ w1, Grows w w1 → ∀ K : Act → World → Prop, (∀ a2 w2, St E.C S' a2 w2 → K a2 w2) → o.wp E.P a w1 K (Qof E.C Q) := fun w1 g K hK => by
    obtain ⟨β, hB⟩ := hS.later g
    obtain ⟨w', h1, h2⟩ := hq.out β a w1 hB
    refine wp_skip' h1 (hK _ _ ?_)
    rw [hdst]
    exact h2
  cases draw with
  | true =>
    dsimp only
    cases way with
    | pure => cases hw
    | quiet => cases hw
    | grow => cases hw
    | bar =>
      simp only [wpMix3]
      intro n
      rw [Sd.gd_sound hS0 hg, if_pos rfl]
      exact key n.w n.grows _ fun a2 w2 hs2 => h _ _ hs2
  | false => exact listIn_of_wp hS0 hg hdf fun K hK => key w (Grows.refl w) K fun a2 w2 hs2 => hK _ _ (h _ _ hs2)
theorem tr_turnV {d : Nat} {S' : Sd} {v : V} (hq : TurnV E S o S' v) (hdst : o.dst = some d) (hd : d < E.C.nt) (hg : S.gd ops o = some true) (hdf : isDefer o = false) (hw : isBar draw way = true) (h : TR E draw ops Q rest (S'.put d v)) : TR E draw ops Q (.step o way rest) S := fun a w hS => by
  have hS0 := hS
  have key : ∀ w1, Grows w w1 → ∀ K : Act → World → Prop, (∀ a2 w2, St E.C (S'.put d v) a2 w2 → K a2 w2) → o.wp E.P a w1 K (Qof E.C Q) := fun w1 g K hK => by
    obtain ⟨β, hB⟩ := hS.later g
    obtain ⟨x, w', β', h1, h2, h3⟩ := hq.out β a w1 hB
    refine wp_value h1 (hK _ _ ?_)
    rw [hdst]
    exact ⟨β', h2.put hd h3⟩
  cases draw with
  | true =>
    dsimp only
    cases way with
    | pure => cases hw
    | quiet => cases hw
    | grow => cases hw
    | bar =>
      simp only [wpMix3]
      intro n
      rw [Sd.gd_sound hS0 hg, if_pos rfl]
      exact key n.w n.grows _ fun a2 w2 hs2 => h _ _ hs2
  | false => exact listIn_of_wp hS0 hg hdf fun K hK => key w (Grows.refl w) K fun a2 w2 hs2 => hK _ _ (h _ _ hs2)
end
end
section
def cellOk (P : Program) (t : Nat) : Bool := (match P.underlying t with | some (.struct _) | some (.array _ _) => false | some _ => true | none => false) && (match P.info? t with | some i => i.size == 1 | none => false)
def aggOk (P : Program) (t n : Nat) : Bool := (match P.underlying t with | some (.struct _) | some (.array _ _) => true | _ => false) && (match P.info? t with | some i => i.size == n | none => false)
def fieldOk (P : Program) (s f off ft : Nat) : Bool := match P.underlying s with
  | some (.struct fs) => (match fs[f]? with | some fd => fd.offset == off && fd.type == ft && (match P.info? ft with | some i => i.size != 0 | none => false) | none => false)
  | _ => false
def sliceOk (P : Program) (t e sz : Nat) : Bool := match P.underlying t with
  | some (.slice e') => e' == e && (match P.info? e with | some i => i.size == sz && decide (i.bytes ≤ 1024) && (match i.zero with | some z => z.cells.size == sz | none => false) | none => false) && decide (0 < sz)
  | _ => false
def arrayOk (P : Program) (t n e sz : Nat) : Bool := match P.underlying t with
  | some (.array n' e') => n' == n && e' == e && (match P.info? e with | some i => i.size == sz | none => false) && decide (0 < sz)
  | _ => false
def intOk (P : Program) (t : Nat) (k : IntKind) : Bool := match P.underlying t with | some (.int k') => k' == k | _ => false
def strOk (P : Program) (t : Nat) : Bool := match P.underlying t with | some .string => true | _ => false
class TCell (P : Program) (t : Nat) : Prop where
  ok : cellOk P t = true
class TAgg (P : Program) (t : Nat) (n : outParam Nat) : Prop where
  ok : aggOk P t n = true
class TField (P : Program) (s f : Nat) (off ft : outParam Nat) : Prop where
  ok : fieldOk P s f off ft = true
class TSlice (P : Program) (t : Nat) (e sz : outParam Nat) : Prop where
  ok : sliceOk P t e sz = true
class TArray (P : Program) (t : Nat) (n e sz : outParam Nat) : Prop where
  ok : arrayOk P t n e sz = true
class TInt (P : Program) (t : Nat) (k : outParam IntKind) : Prop where
  ok : intOk P t k = true
class TStr (P : Program) (t : Nat) : Prop where
  ok : strOk P t = true
section
variable {P : Program}
theorem cell_parts {t : Nat} (h : TCell P t) : ∃ d i, P.underlying t = some d ∧ (∀ fs, d ≠ .struct fs) ∧ (∀ n e, d ≠ .array n e) ∧ P.info? t = some i ∧ i.size = 1 := by
  have := h.ok
  unfold cellOk at this
  simp only [Bool.and_eq_true] at this
  obtain ⟨h1, h2⟩ := this
  cases hi : P.info? t with
  | none => rw [hi] at h2; cases h2
  | some i =>
    cases hu : P.underlying t with
    | none => rw [hu] at h1; cases h1
    | some d =>
      rw [hi] at h2
      rw [hu] at h1
      refine ⟨d, i, rfl, ?_, ?_, rfl, by simpa using h2⟩
      · rintro fs rfl; simp at h1
      · rintro n e rfl; simp at h1
theorem agg_parts {t n : Nat} (h : TAgg P t n) : ∃ d i, P.underlying t = some d ∧ ((∃ fs, d = .struct fs) ∨ (∃ n e, d = .array n e)) ∧ P.info? t = some i ∧ i.size = n := by
  have := h.ok
  unfold aggOk at this
  simp only [Bool.and_eq_true] at this
  obtain ⟨h1, h2⟩ := this
  cases hi : P.info? t with
  | none => rw [hi] at h2; cases h2
  | some i =>
    cases hu : P.underlying t with
    | none => rw [hu] at h1; cases h1
    | some d =>
      rw [hi] at h2
      rw [hu] at h1
      refine ⟨d, i, rfl, ?_, rfl, by simpa using h2⟩
      cases d <;> simp at h1
      · exact .inr ⟨_, _, rfl⟩
      · exact .inl ⟨_, rfl⟩
theorem field_parts {s f off ft : Nat} (h : TField P s f off ft) : ∃ fs fd i, P.underlying s = some (.struct fs) ∧ fs[f]? = some fd ∧ fd.offset = off ∧ fd.type = ft ∧ P.info? ft = some i ∧ i.size ≠ 0 := by
  have := h.ok
  unfold fieldOk at this
  split at this
  · rename_i fs hu
    split at this
    · rename_i fd hf
      simp only [Bool.and_eq_true, beq_iff_eq] at this
      obtain ⟨⟨h1, h2⟩, h3⟩ := this
      cases hi : P.info? ft with
      | none => rw [hi] at h3; cases h3
      | some i => exact ⟨fs, fd, i, hu, hf, h1, h2, rfl, by rw [hi] at h3; simpa using h3⟩
    · cases this
  · cases this
theorem slice_elem {t e sz : Nat} (h : TSlice P t e sz) : ∃ bytes, Elem P t e sz bytes ∧ bytes ≤ 1024 := by
  have := h.ok
  unfold sliceOk at this
  split at this
  · rename_i e' hu
    simp only [Bool.and_eq_true, beq_iff_eq, decide_eq_true_eq] at this
    obtain ⟨⟨rfl, h2⟩, h3⟩ := this
    cases hi : P.info? e' with
    | none => rw [hi] at h2; cases h2
    | some i =>
      rw [hi] at h2
      simp only [Bool.and_eq_true, beq_iff_eq, decide_eq_true_eq] at h2
      obtain ⟨⟨h4, h5⟩, h6⟩ := h2
      cases hz : i.zero with
      | none => rw [hz] at h6; cases h6
      | some z => exact ⟨i.bytes, ⟨i, z, hu, hi, hz, h4, rfl, by rw [hz] at h6; simpa using h6, h3⟩, h5⟩
  · cases this
theorem slice_parts {t e sz : Nat} (h : TSlice P t e sz) : ∃ i, P.underlying t = some (.slice e) ∧ P.info? e = some i ∧ i.size = sz ∧ 0 < sz := by
  obtain ⟨b, ⟨i, z, h1, h2, _, h4, _, _, h7⟩, _⟩ := slice_elem h
  exact ⟨i, h1, h2, h4, h7⟩
theorem array_parts {t n e sz : Nat} (h : TArray P t n e sz) : ∃ i, P.underlying t = some (.array n e) ∧ P.info? e = some i ∧ i.size = sz ∧ 0 < sz := by
  have := h.ok
  unfold arrayOk at this
  split at this
  · rename_i n' e' hu
    simp only [Bool.and_eq_true, beq_iff_eq, decide_eq_true_eq] at this
    obtain ⟨⟨⟨rfl, rfl⟩, h2⟩, h3⟩ := this
    cases hi : P.info? e' with
    | none => rw [hi] at h2; cases h2
    | some i => exact ⟨i, hu, rfl, by rw [hi] at h2; simpa using h2, h3⟩
  · cases this
theorem int_parts {t : Nat} {k : IntKind} (h : TInt P t k) : P.underlying t = some (.int k) := by
  have := h.ok
  unfold intOk at this
  split at this
  · rename_i k' hu
    rw [hu]
    simp at this
    rw [this]
  · cases this
theorem str_parts {t : Nat} (h : TStr P t) : P.underlying t = some .string := by
  have := h.ok
  unfold strOk at this
  split at this
  · assumption
  · cases this
theorem add_flat (b o j : Nat) : (⟨b, o, none⟩ : Addr).add j = ⟨b, o + j, none⟩ := by unfold Addr.add; split <;> simp_all
theorem isAgg_no {t : Nat} {d : TypeDesc} (hu : P.underlying t = some d) (h1 : ∀ fs, d ≠ .struct fs) (h2 : ∀ n e, d ≠ .array n e) (w : World) : (isAgg t).run P w = .ok false w := by
  unfold isAgg
  simp only [Sem.run_bind, run_underlying hu, Result.andThen_ok]
  cases d <;> first | rfl | exact absurd rfl (h1 _) | exact absurd rfl (h2 _ _)
theorem isAgg_yes {t : Nat} {d : TypeDesc} (hu : P.underlying t = some d) (h : (∃ fs, d = .struct fs) ∨ (∃ n e, d = .array n e)) (w : World) : (isAgg t).run P w = .ok true w := by
  unfold isAgg
  simp only [Sem.run_bind, run_underlying hu, Result.andThen_ok]
  rcases h with ⟨fs, rfl⟩ | ⟨n, e, rfl⟩ <;> rfl
theorem run_size {t : Nat} {i : TypeInfo} (hi : P.info? t = some i) (w : World) : (sizeOf t).run P w = .ok i.size w := by simp [sizeOf, typeInfo, hi]
theorem loadAt_cell {t : Nat} (h : TCell P t) {w : World} {b o : Nat} {v : Value} (hc : w.cell? ⟨b, o, none⟩ = some v) : (Instr.loadAt t (.pointer (some ⟨b, o, none⟩))).run P w = .ok v w := by
  obtain ⟨d, i, hu, h1, h2, _, _⟩ := cell_parts h
  simp [Instr.loadAt, Instr.sureAddr, loadVar, isAgg_no hu h1 h2, load, Sem.run, hc]
theorem loadAt_agg {t n : Nat} (h : TAgg P t n) {w : World} {b o : Nat} {vs : List Value} (hn : vs.length = n) (hc : ∀ j v, vs[j]? = some v → w.cell? ⟨b, o + j, none⟩ = some v) :
    (Instr.loadAt t (.pointer (some ⟨b, o, none⟩))).run P w = .ok (.agg vs.toArray) w := by
  obtain ⟨d, i, hu, h1, hi, hs⟩ := agg_parts h
  have := run_loadCells_list (P := P) w ⟨b, o, none⟩ vs (fun j v hj => by rw [add_flat]; exact hc j v hj)
  simp [Instr.loadAt, Instr.sureAddr, loadVar, isAgg_yes hu h1, run_size hi, hs, ← hn, this]
end
inductive ToD (H : List (Nat × Ob)) : V → D → Prop
  | d (x : D) : ToD H (.d x) x
  | own {n k e sz : Nat} {xs : List D} (h : look n H = some (.row e sz true xs k)) : ToD H (.own n k) (.list sz xs)
  | nils (sz : Nat) : ToD H (.nils sz) (.list sz [])
inductive ToDs (H : List (Nat × Ob)) : List V → List D → Prop
  | nil : ToDs H [] []
  | cons {v : V} {x : D} {vs : List V} {xs : List D} (h : ToD H v x) (t : ToDs H vs xs) : ToDs H (v :: vs) (x :: xs)
inductive Cut {α : Type} : List α → Nat → Nat → List α → Prop
  | done (l : List α) : Cut l 0 0 []
  | take {x : α} {l : List α} {m : Nat} {r : List α} (h : Cut l 0 m r) : Cut (x :: l) 0 (m + 1) (x :: r)
  | skip {x : α} {l : List α} {o m : Nat} {r : List α} (h : Cut l o m r) : Cut (x :: l) (o + 1) m r
theorem Cut.eq {α : Type} {l r : List α} {o m : Nat} (h : Cut l o m r) : r = (l.drop o).take m ∧ r.length = m := by
  induction h with
  | done l => simp
  | take h ih => obtain ⟨h1, h2⟩ := ih; simp only [List.drop_zero] at h1; simp [← h1, h2]
  | skip h ih => simpa using ih
theorem ToD.rep {C : Ctx} {β : Nat → Hd} {S : Sd} {a : Act} {w : World} (h : StB C β S a w) {v : V} {x : D} (hd : ToD S.H v x) {u : Value} (hu : RepV w (Mut C.M0 β S.H) β S.H v u) : RepD w (Mut C.M0 β S.H) x u := by
  cases hd with
  | d => exact hu
  | @own n k e sz xs hl =>
    have he : u = (β n).v := hu e sz true xs hl
    subst he
    obtain ⟨ys, h1, h2⟩ := h.obs n _ hl
    obtain ⟨a', c, hv, h3, h4, h5⟩ := owns_shape h1
    refine ⟨a', c, ys, hv, h3, h4, h5, h2, fun j y hj => ?_⟩
    rw [hv] at h1
    obtain ⟨b, o, e', _, hc⟩ := (Sl.of_owns h1).rd j y hj
    refine ⟨b, o, e', ?_, hc⟩
    have hlt : j < xs.length * sz := by rw [← h1.1]; exact (List.getElem?_eq_some_iff.1 hj).1
    have ho : o = 0 := by
      rcases h1.2 with ⟨hv', _⟩ | ⟨g, cap, cur, hv', _⟩ <;> (simp only [Value.slice.injEq] at hv'; rw [hv'.1] at e'; cases e')
      rfl
    subst ho
    rintro (hm | ⟨m, ob, h6, h7, h8⟩)
    · exact h.out n _ b _ hl (.inl (by rw [hv, e']; rfl)) hm
    · by_cases hnm : m = n
      · subst hnm
        rw [hl] at h6
        cases h6
        rcases h8 with h8 | h8
        · cases h8
        · omega
      · exact h.apart m n b ob _ hnm h6 hl h7 (.inl (by rw [hv, e']; rfl))
  | nils sz =>
    have he : u = .slice none 0 0 := hu
    subst he
    exact ⟨none, 0, [], rfl, Nat.le_refl _, Nat.zero_le _, fun _ => rfl, rfl, Reads.nil _ _ _⟩
end
section
def D.scalar : D → Bool
  | .agg _ => false
  | _ => true
theorem RepD.oneOf {w : World} {M : Nat → Nat → Prop} {x : D} {v : Value} (h : RepD w M x v) (hs : x.scalar = true) : v.oneCell' = true := by
  cases x with
  | agg cs => cases hs
  | int k n => simp only [RepD] at h; subst h; rfl
  | bool b => simp only [RepD] at h; subst h; rfl
  | str s => simp only [RepD] at h; subst h; rfl
  | raw u => exact h.1 ▸ h.2
  | nil k => simp only [RepD] at h; subst h; rfl
  | list sz xs => simp only [RepD] at h; obtain ⟨_, _, _, rfl, _⟩ := h; rfl
  | ref cs off => simp only [RepD] at h; obtain ⟨_, _, _, rfl, _⟩ := h; rfl
  | clo fn f c => simp only [RepD] at h; obtain ⟨_, _, rfl, _⟩ := h; rfl
  | map ks vs => simp only [RepD] at h; obtain ⟨_, _, _, rfl, _⟩ := h; rfl
section
variable {E : Set} {S : Sd} {dst : Option Tmp} {ty : TypeId} {pos : String} {af : Array Edge} {gd : Option (Nat × Bool)}
theorem q_move {x : Operand} {v : V} (hx : S.ev x = some v) (ho : okOp x = true) : Swift E S ⟨dst, .move x, ty, pos, af, gd⟩ v := Swift.mk fun β a w h =>
  ⟨a.eval x, fun w' _ => rfl, h.ev hx ho⟩
theorem q_assign {x : Operand} {v : V} (hx : S.ev x = some v) (ho : okOp x = true) : Swift E S ⟨dst, .assign x, ty, pos, af, gd⟩ v := Swift.mk fun β a w h =>
  ⟨a.eval x, fun w' _ => rfl, h.ev hx ho⟩
theorem q_nil {e sz : Nat} [TSlice E.P ty e sz] : Swift E S ⟨dst, .assign (.const (.slice none 0 0)), ty, pos, af, gd⟩ (.nils sz) := Swift.mk fun β a w h =>
  ⟨.slice none 0 0, fun w' _ => rfl, rfl⟩
theorem q_pick_t {c x y : Operand} {v : V} (hc : S.ev c = some (.d (.bool true))) (hk : okOp c = true) (hx : S.ev x = some v) (ho : okOp x = true) : Swift E S ⟨dst, .pick c x y, ty, pos, af, gd⟩ v := Swift.mk fun β a w h => by
  have h1 : a.eval c = .bool true := h.ev hc hk
  exact ⟨a.eval x, fun w' _ => by simp [execOp, h1, asBool], h.ev hx ho⟩
theorem q_pick_f {c x y : Operand} {v : V} (hc : S.ev c = some (.d (.bool false))) (hk : okOp c = true) (hx : S.ev y = some v) (ho : okOp y = true) : Swift E S ⟨dst, .pick c x y, ty, pos, af, gd⟩ v := Swift.mk fun β a w h => by
  have h1 : a.eval c = .bool false := h.ev hc hk
  exact ⟨a.eval y, fun w' _ => by simp [execOp, h1, asBool], h.ev hx ho⟩
theorem StB.boxAt {C : Ctx} {β : Nat → Hd} {a : Act} {w : World} (h : StB C β S a w) {n off : Nat} {cs : List V} {x : Operand} (hx : S.ev x = some (.ptr n off)) (hl : look n S.H = some (.box cs)) :
    ∃ (b : Nat) (vs : List Value) (t : TypeId), (β n).v = .pointer (some ⟨b, 0, none⟩) ∧ a.eval x = .pointer (some ⟨b, off, none⟩) ∧ w.heap[b]? = some (.cells vs.toArray t (0, 0)) ∧ RepL w (Mut C.M0 β S.H) β S.H cs vs := by
  have hok : okOp x = true := by
    cases x <;> first | rfl | skip
    simp only [Sd.ev, Option.some.injEq] at hx
    rename_i v
    unfold constV at hx
    split at hx <;> simp_all
  obtain ⟨b, h1, h2⟩ := h.ev hx hok
  obtain ⟨b', vs, t, h3, h4, h5⟩ := h.obs n _ hl
  rw [h1] at h3
  cases h3
  exact ⟨b, vs, t, h1, h2, h4, h5⟩
theorem box_cell {w : World} {b : Nat} {vs : List Value} {t : TypeId} (h : w.heap[b]? = some (.cells vs.toArray t (0, 0))) {o : Nat} {v : Value} (hv : vs[o]? = some v) : w.cell? ⟨b, o, none⟩ = some v := by
  simp [World.cell?, h, hv]
theorem grows_heap {w w' : World} (g : Grows w w') {b : Nat} {o : Obj} (h : w.heap[b]? = some o) : w'.heap[b]? = some o := (g.block b (Array.getElem?_eq_some_iff.1 h).1).trans h
theorem q_load_box {t : Nat} {x : Operand} {n off : Nat} {cs : List V} {v : V} [ht : TCell E.P t] (hx : S.ev x = some (.ptr n off)) (hl : look n S.H = some (.box cs)) (hc : cs[off]? = some v) : Quiet E S ⟨dst, .load t x, ty, pos, af, gd⟩ v := Quiet.mk fun β a w h => by
  obtain ⟨b, vs, t', h1, h2, h3, h4⟩ := h.boxAt hx hl
  obtain ⟨u, h5, h6⟩ := h4.get hc
  refine ⟨u, fun w' g => ?_, h6⟩
  have := loadAt_cell ht (box_cell (grows_heap g h3) h5)
  simp [execOp, h2, this]
theorem q_load_boxs {t n off m : Nat} {x : Operand} {cs vs' : List V} {ds : List D} [ht : TAgg E.P t m] (hx : S.ev x = some (.ptr n off)) (hl : look n S.H = some (.box cs)) (hc : Cut cs off m vs') (hd : ToDs S.H vs' ds)
    (hn : ds.all D.scalar = true) : Quiet E S ⟨dst, .load t x, ty, pos, af, gd⟩ (.d (.agg ds)) := Quiet.mk fun β a w h => by
  obtain ⟨b, vs, t', h1, h2, h3, h4⟩ := h.boxAt hx hl
  obtain ⟨h5, h6⟩ := hc.eq
  have hlen := h4.length
  have hrep : ∀ (k : Nat) (vs' : List V) (ds : List D), ToDs S.H vs' ds → (ds.all D.scalar = true) → (∀ i v, vs'[i]? = some v → cs[k + i]? = some v) → RepA w (Mut E.C.M0 β S.H) ds ((vs.drop k).take vs'.length) := by
    intro k vs' ds hd
    induction hd generalizing k with
    | nil => intro _ _; simp [RepA]
    | @cons v x vs1 xs1 h7 h8 ih =>
      intro hn hcs
      simp only [List.all_cons, Bool.and_eq_true] at hn
      obtain ⟨u, h9, h10⟩ := h4.get (hcs 0 v rfl)
      have h11 := h7.rep h h10
      have h12 := ih (k + 1) hn.2 (fun i v hv => by rw [show k + 1 + i = k + (i + 1) by omega]; exact hcs (i + 1) v (by simpa using hv))
      have hk : k < vs.length := (List.getElem?_eq_some_iff.1 (by simpa using h9)).1
      refine ⟨u, (vs.drop (k + 1)).take vs1.length, ?_, ?_, h11, h12⟩
      · rw [List.drop_eq_getElem_cons hk, List.length_cons, List.take_succ_cons]
        simp only [Nat.add_zero, List.getElem?_eq_getElem hk, Option.some.injEq] at h9
        rw [h9]
      · exact h11.oneOf hn.1
  have h7 := hrep off vs' ds hd hn (fun i v hv => by
    rw [h5, List.getElem?_take, List.getElem?_drop] at hv
    split at hv
    · exact hv
    · cases hv)
  have hle : off + m ≤ vs.length ∨ m = 0 := by
    rw [h5] at h6
    simp at h6
    omega
  refine ⟨.agg ((vs.drop off).take vs'.length).toArray, fun w' g => ?_, ⟨_, rfl, h7⟩⟩
  have := loadAt_agg (vs := (vs.drop off).take vs'.length) (w := w') (b := b) (o := off) ht (by simp; omega) (fun j v hv => box_cell (grows_heap g h3) (by
    rw [List.getElem?_take, List.getElem?_drop] at hv
    split at hv
    · exact hv
    · cases hv))
  simp [execOp, h2, this]
theorem StB.refAt {C : Ctx} {β : Nat → Hd} {a : Act} {w : World} (h : StB C β S a w) {off : Nat} {cs : List D} {x : Operand} (hx : S.ev x = some (.d (.ref cs off))) :
    ∃ (b o : Nat) (vs : List Value), a.eval x = .pointer (some ⟨b, o + off, none⟩) ∧ RepA w (Mut C.M0 β S.H) cs vs ∧ Reads w (Mut C.M0 β S.H) (some ⟨b, o, none⟩) vs := by
  have hok : okOp x = true := by
    cases x <;> first | rfl | skip
    simp only [Sd.ev, Option.some.injEq] at hx
    rename_i v
    unfold constV at hx
    split at hx <;> simp_all
  exact h.ev hx hok
theorem reads_later {w w' : World} {M : Nat → Nat → Prop} {b o : Nat} {vs : List Value} (h : Reads w M (some ⟨b, o, none⟩) vs) (g : Grows w w') {j : Nat} {v : Value} (hj : vs[j]? = some v) : w'.cell? ⟨b, o + j, none⟩ = some v := by
  obtain ⟨b', o', e, _, hc⟩ := h j v hj
  cases e
  exact (g.cell (p := ⟨b, o + j, none⟩) (World.block_lt_of_cell? w ⟨b, o + j, none⟩ hc)).trans hc
theorem q_load_ref {t : Nat} {x : Operand} {off : Nat} {cs : List D} {v : D} [ht : TCell E.P t] (hx : S.ev x = some (.d (.ref cs off))) (hc : cs[off]? = some v) : Quiet E S ⟨dst, .load t x, ty, pos, af, gd⟩ (.d v) := Quiet.mk fun β a w h => by
  obtain ⟨b, o, vs, h1, h2, h3⟩ := h.refAt hx
  obtain ⟨u, h4, _, h5⟩ := h2.get hc
  refine ⟨u, fun w' g => ?_, h5⟩
  have := loadAt_cell ht (reads_later h3 g h4)
  simp [execOp, h1, this]
theorem q_load_refs {t off m : Nat} {x : Operand} {cs ds : List D} [ht : TAgg E.P t m] (hx : S.ev x = some (.d (.ref cs off))) (hc : Cut cs off m ds) : Quiet E S ⟨dst, .load t x, ty, pos, af, gd⟩ (.d (.agg ds)) := Quiet.mk fun β a w h => by
  obtain ⟨b, o, vs, h1, h2, h3⟩ := h.refAt hx
  obtain ⟨h5, h6⟩ := hc.eq
  have h7 : RepA w (Mut E.C.M0 β S.H) ds ((vs.drop off).take m) := by rw [h5]; exact (h2.drop off).take m
  refine ⟨.agg ((vs.drop off).take m).toArray, fun w' g => ?_, ⟨_, rfl, h7⟩⟩
  have := loadAt_agg (vs := (vs.drop off).take m) (w := w') (b := b) (o := o + off) ht (by rw [h7.length]; exact h6) (fun j v hv => by
    rw [List.getElem?_take, List.getElem?_drop] at hv
    split at hv
    · rw [Nat.add_assoc]; exact reads_later h3 g hv
    · cases hv)
  simp [execOp, h1, this]
theorem run_fieldAt {P : Program} {s f off ft : Nat} (h : TField P s f off ft) (w : World) (b o : Nat) : (Instr.fieldAt s (.pointer (some ⟨b, o, none⟩)) f).run P w = .ok (.pointer (some ⟨b, o + off, none⟩)) w := by
  obtain ⟨fs, fd, i, hu, hf, h1, h2, hi, h3⟩ := field_parts h
  simp [Instr.fieldAt, Instr.sureAddr, run_underlying hu, hf, fieldPlace, h2, run_size hi, h3, add_flat, h1]
theorem q_field_box {s f off' ft n off : Nat} {x : Operand} [ht : TField E.P s f off' ft] (hx : S.ev x = some (.ptr n off)) : Swift E S ⟨dst, .fieldAddr s x f, ty, pos, af, gd⟩ (.ptr n (off + off')) := Swift.mk fun β a w h => by
  have hok : okOp x = true := by
    cases x <;> first | rfl | skip
    simp only [Sd.ev, Option.some.injEq] at hx
    rename_i v
    unfold constV at hx
    split at hx <;> simp_all
  obtain ⟨b, h1, h2⟩ := h.ev hx hok
  exact ⟨.pointer (some ⟨b, off + off', none⟩), fun w' _ => by simp [execOp, h2, run_fieldAt ht], b, h1, rfl⟩
theorem q_field_ref {s f off' ft off : Nat} {cs : List D} {x : Operand} [ht : TField E.P s f off' ft] (hx : S.ev x = some (.d (.ref cs off))) : Swift E S ⟨dst, .fieldAddr s x f, ty, pos, af, gd⟩ (.d (.ref cs (off + off'))) := Swift.mk fun β a w h => by
  obtain ⟨b, o, vs, h1, h2, h3⟩ := h.refAt hx
  exact ⟨.pointer (some ⟨b, o + (off + off'), none⟩), fun w' _ => by simp [execOp, h1, run_fieldAt ht, Nat.add_assoc], b, o, vs, rfl, h2, h3⟩
theorem q_nil_box {n off : Nat} {x : Operand} (hx : S.ev x = some (.ptr n off)) : Swift E S ⟨dst, .nilCheck x, ty, pos, af, gd⟩ (.ptr n off) := Swift.mk fun β a w h => by
  have hok : okOp x = true := by
    cases x <;> first | rfl | skip
    simp only [Sd.ev, Option.some.injEq] at hx
    rename_i v
    unfold constV at hx
    split at hx <;> simp_all
  obtain ⟨b, h1, h2⟩ := h.ev hx hok
  exact ⟨a.eval x, fun w' _ => by simp [execOp, h2], b, h1, h2⟩
theorem q_nil_ref {off : Nat} {cs : List D} {x : Operand} (hx : S.ev x = some (.d (.ref cs off))) : Swift E S ⟨dst, .nilCheck x, ty, pos, af, gd⟩ (.d (.ref cs off)) := Swift.mk fun β a w h => by
  obtain ⟨b, o, vs, h1, h2, h3⟩ := h.refAt hx
  exact ⟨a.eval x, fun w' _ => by simp [execOp, h1], b, o, vs, h1, h2, h3⟩
def inK : IntKind → Int → Prop
  | .i8, n => -128 ≤ n ∧ n ≤ 127
  | .i16, n => -32768 ≤ n ∧ n ≤ 32767
  | .i32, n => -2147483648 ≤ n ∧ n ≤ 2147483647
  | .i64, n => -9223372036854775808 ≤ n ∧ n ≤ 9223372036854775807
  | .u8, n => 0 ≤ n ∧ n ≤ 255
  | .u16, n => 0 ≤ n ∧ n ≤ 65535
  | .u32, n => 0 ≤ n ∧ n ≤ 4294967295
  | .u64, n => 0 ≤ n ∧ n ≤ 18446744073709551615
theorem wrap_in {k : IntKind} {n : Int} (h : inK k n) : k.wrap n = n := by
  cases k
  · exact IntWalk.i8_in n h
  · exact IntWalk.i16_in n h
  · exact IntWalk.i32_in n h
  · exact IntWalk.i64_in n h
  · exact IntWalk.u8_in n h
  · exact IntWalk.u16_in n h
  · exact IntWalk.u32_in n h
  · exact IntWalk.u64_in n h
variable {xt yt : TypeId} {x y : Operand} {k : IntKind} {p q r : Int}
theorem bin_int {op : BinOp} {v : Value} {D : V} (hx : S.ev x = some (.d (.int k p))) (hy : S.ev y = some (.d (.int k q))) (hox : okOp x = true) (hoy : okOp y = true) (hne : op ≠ .shl ∧ op ≠ .shr)
    (hr : ∀ w, (binOp op xt (.int k p) (.int k q)).run E.P w = .ok v w) (hv : ∀ w M β H, RepV w M β H D v) : Swift E S ⟨dst, .binOp op xt x y yt, ty, pos, af, gd⟩ D := Swift.mk fun β a w h => by
  have h1 : a.eval x = .int k p := h.ev hx hox
  have h2 : a.eval y = .int k q := h.ev hy hoy
  refine ⟨v, fun w' _ => ?_, hv _ _ _ _⟩
  have hg : (eqGuard op xt x y (.int k p) (.int k q)).run E.P w' = .ok () w' := by
    unfold eqGuard
    cases op <;> rfl
  simp [execOp, h1, h2, hg, hr]
theorem run_arith {P : Program} {op : BinOp} (hop : op = .add ∨ op = .sub ∨ op = .mul) (w : World) : (binOp op xt (.int k p) (.int k q)).run P w = (Op.intArith op k p q).run P w := by
  rcases hop with rfl | rfl | rfl <;> simp [binOp]
theorem q_add (hx : S.ev x = some (.d (.int k p))) (hy : S.ev y = some (.d (.int k q))) (hox : okOp x = true) (hoy : okOp y = true) (hin : inK k (p + q)) : Swift E S ⟨dst, .binOp .add xt x y yt, ty, pos, af, gd⟩ (.d (.int k (p + q))) :=
  bin_int hx hy hox hoy (by simp) (v := .int k (p + q)) (fun w => by rw [run_arith (by simp)]; simp [Op.intArith, wrap_in hin]) (fun _ _ _ _ => rfl)
theorem q_add_w (hx : S.ev x = some (.d (.int k p))) (hy : S.ev y = some (.d (.int k q))) (hox : okOp x = true) (hoy : okOp y = true) : Swift E S ⟨dst, .binOp .add xt x y yt, ty, pos, af, gd⟩ (.d (.int k (k.wrap (p + q)))) :=
  bin_int hx hy hox hoy (by simp) (v := .int k (k.wrap (p + q))) (fun w => by rw [run_arith (by simp)]; simp [Op.intArith]) (fun _ _ _ _ => rfl)
theorem q_sub (hx : S.ev x = some (.d (.int k p))) (hy : S.ev y = some (.d (.int k q))) (hox : okOp x = true) (hoy : okOp y = true) (hin : inK k (p - q)) : Swift E S ⟨dst, .binOp .sub xt x y yt, ty, pos, af, gd⟩ (.d (.int k (p - q))) :=
  bin_int hx hy hox hoy (by simp) (v := .int k (p - q)) (fun w => by rw [run_arith (by simp)]; simp [Op.intArith, wrap_in hin]) (fun _ _ _ _ => rfl)
theorem q_sub_w (hx : S.ev x = some (.d (.int k p))) (hy : S.ev y = some (.d (.int k q))) (hox : okOp x = true) (hoy : okOp y = true) : Swift E S ⟨dst, .binOp .sub xt x y yt, ty, pos, af, gd⟩ (.d (.int k (k.wrap (p - q)))) :=
  bin_int hx hy hox hoy (by simp) (v := .int k (k.wrap (p - q))) (fun w => by rw [run_arith (by simp)]; simp [Op.intArith]) (fun _ _ _ _ => rfl)
theorem q_mul (hx : S.ev x = some (.d (.int k p))) (hy : S.ev y = some (.d (.int k q))) (hox : okOp x = true) (hoy : okOp y = true) (hin : inK k (p * q)) : Swift E S ⟨dst, .binOp .mul xt x y yt, ty, pos, af, gd⟩ (.d (.int k (p * q))) :=
  bin_int hx hy hox hoy (by simp) (v := .int k (p * q)) (fun w => by rw [run_arith (by simp)]; simp [Op.intArith, wrap_in hin]) (fun _ _ _ _ => rfl)
theorem q_mul_w (hx : S.ev x = some (.d (.int k p))) (hy : S.ev y = some (.d (.int k q))) (hox : okOp x = true) (hoy : okOp y = true) : Swift E S ⟨dst, .binOp .mul xt x y yt, ty, pos, af, gd⟩ (.d (.int k (k.wrap (p * q)))) :=
  bin_int hx hy hox hoy (by simp) (v := .int k (k.wrap (p * q))) (fun w => by rw [run_arith (by simp)]; simp [Op.intArith]) (fun _ _ _ _ => rfl)
theorem q_quo (hx : S.ev x = some (.d (.int k p))) (hy : S.ev y = some (.d (.int k q))) (hox : okOp x = true) (hoy : okOp y = true) (h0 : 0 ≤ p) (h1 : 1 ≤ q) (hin : inK k (p / q)) : Swift E S ⟨dst, .binOp .quo xt x y yt, ty, pos, af, gd⟩ (.d (.int k (p / q))) :=
  bin_int hx hy hox hoy (by simp) (v := .int k (p / q)) (fun w => by
    have h2 : ¬ q = 0 := by omega
    have h3 : p.tdiv q = p / q := Int.tdiv_eq_ediv_of_nonneg h0
    simp [binOp, Op.intDiv, h2, h3, wrap_in hin]) (fun _ _ _ _ => rfl)
theorem q_rem (hx : S.ev x = some (.d (.int k p))) (hy : S.ev y = some (.d (.int k q))) (hox : okOp x = true) (hoy : okOp y = true) (h0 : 0 ≤ p) (h1 : 1 ≤ q) : Swift E S ⟨dst, .binOp .rem xt x y yt, ty, pos, af, gd⟩ (.d (.int k (p % q))) :=
  bin_int hx hy hox hoy (by simp) (v := .int k (p % q)) (fun w => by
    have h2 : ¬ q = 0 := by omega
    have h3 : p.tmod q = p % q := Int.tmod_eq_emod_of_nonneg h0
    simp [binOp, Op.intDiv, h2, h3]) (fun _ _ _ _ => rfl)
def cmp : BinOp → Int → Int → Prop
  | .lss, p, q => p < q
  | .leq, p, q => p ≤ q
  | .gtr, p, q => q < p
  | .geq, p, q => q ≤ p
  | .eql, p, q => p = q
  | .neq, p, q => ¬ p = q
  | _, _, _ => False
def isCmp : BinOp → Bool
  | .lss | .leq | .gtr | .geq | .eql | .neq => true
  | _ => false
theorem q_cmp {op : BinOp} (hop : isCmp op = true) (hx : S.ev x = some (.d (.int k p))) (hy : S.ev y = some (.d (.int k q))) (hox : okOp x = true) (hoy : okOp y = true) {b : Bool} (hb : (b = true) = cmp op p q) :
    Swift E S ⟨dst, .binOp op xt x y yt, ty, pos, af, gd⟩ (.d (.bool b)) :=
  bin_int hx hy hox hoy (by cases op <;> simp_all [isCmp]) (v := .bool b) (fun w => by
    have hd : ∀ (c : Prop) [Decidable c], (b = true) = c → decide c = b := fun c _ h => by cases b <;> simp_all
    cases op <;> simp [isCmp] at hop <;> simp only [cmp] at hb <;> simp [binOp, Op.intCmp]
    · exact (Bool.beq_eq_decide_eq p q).trans (hd _ hb)
    · rw [bne, Bool.beq_eq_decide_eq]
      have := hd _ hb
      rw [← this]
      by_cases h : p = q <;> simp [h]
    all_goals exact hd _ hb) (fun _ _ _ _ => rfl)
theorem q_cmp_t {op : BinOp} (hop : isCmp op = true) (hx : S.ev x = some (.d (.int k p))) (hy : S.ev y = some (.d (.int k q))) (hox : okOp x = true) (hoy : okOp y = true) (h : cmp op p q) : Swift E S ⟨dst, .binOp op xt x y yt, ty, pos, af, gd⟩ (.d (.bool true)) :=
  q_cmp hop hx hy hox hoy (propext ⟨fun _ => h, fun _ => rfl⟩)
theorem q_cmp_f {op : BinOp} (hop : isCmp op = true) (hx : S.ev x = some (.d (.int k p))) (hy : S.ev y = some (.d (.int k q))) (hox : okOp x = true) (hoy : okOp y = true) (h : ¬ cmp op p q) : Swift E S ⟨dst, .binOp op xt x y yt, ty, pos, af, gd⟩ (.d (.bool false)) :=
  q_cmp hop hx hy hox hoy (propext ⟨(fun h' => by cases h'), fun h' => absurd h' h⟩)
theorem tr_cmp {Q : Exit → Sd → Prop} {ops : Array Oper} {draw : Bool} {rest : Todo} {way : Way3} {op : BinOp} {d : Nat} (hop : isCmp op = true) (hx : S.ev x = some (.d (.int k p))) (hy : S.ev y = some (.d (.int k q))) (hox : okOp x = true) (hoy : okOp y = true) (hd : d < E.C.nt) {o : Oper}
    (ho : o = ⟨some d, .binOp op xt x y yt, ty, pos, af, gd⟩) (hg : S.gd ops o = some true) (h1 : cmp op p q → TR E draw ops Q rest (S.put d (.d (.bool true)))) (h2 : ¬ cmp op p q → TR E draw ops Q rest (S.put d (.d (.bool false)))) : TR E draw ops Q (.step o way rest) S := by
  subst ho
  by_cases h : cmp op p q
  · exact tr_still (q_cmp_t hop hx hy hox hoy h) rfl hd hg rfl (h1 h)
  · exact tr_still (q_cmp_f hop hx hy hox hoy h) rfl hd hg rfl (h2 h)
end
end
end Go.Proofs.YtjhbglklcddekaaGreatDoor
