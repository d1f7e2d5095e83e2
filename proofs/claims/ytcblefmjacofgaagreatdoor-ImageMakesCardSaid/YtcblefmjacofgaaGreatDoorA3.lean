/- Parts: D9, D10, D11, D12, D13, D14, D15, D16, D17, D18. -/
import Derived.Test.YtcblefmjacofgaaGreatDoorA2
import Derived.Great.BuildSlice
import Derived.RangeFuncLeaves
import Derived.RangeFuncRecord
import Derived.Laws.BytesArg
set_option linter.all false
set_option linter.unusedVariables false
set_option linter.unusedSimpArgs false
namespace Go.Proofs.YtcblefmjacofgaaGreatDoor
open Go.RowKit
def zeroCell : Value → V → Bool
  | .int k n, .d (.int k' n') => decide (k = k') && decide (n = n')
  | .bool b, .d (.bool b') => b == b'
  | .string t, .d (.str t') => t.size == 0 && t'.size == 0
  | .slice none 0 0, .nils _ => true
  | .pointer none, .d (.raw (.pointer none)) => true
  | .map none, .d (.raw (.map none)) => true
  | .nilFunc, .d (.raw .nilFunc) => true
  | _, _ => false
def zeroRep : List Value → List V → Bool
  | [], [] => true
  | u :: us, v :: vs => zeroCell u v && zeroRep us vs
  | _, _ => false
def zeroOk (P : Program) (t : Nat) (vs : List V) : Bool := match P.info? t with
  | some i => (match i.zero with | some z => zeroRep z.cells.toList vs && i.size == z.cells.size | none => false)
  | none => false
class TZero (P : Program) (t : Nat) (vs : outParam (List V)) : Prop where
  ok : zeroOk P t vs = true
class TSize (P : Program) (t : Nat) (n : outParam Nat) : Prop where
  ok : (P.info? t).map (·.size) = some n
def callOk (P : Program) (f : Nat) : Bool := match P.funcs[f]? with
  | some fn => fn.body.isSome && !(fn.name == "runtime.NumGoroutine")
  | none => false
class TFun (P : Program) (f : Nat) : Prop where
  ok : callOk P f = true
theorem empty_str {s t : ByteArray} (h1 : s.size = 0) (h2 : t.size = 0) : s = t := by
  cases s with | mk a =>
  cases t with | mk b =>
  have ha : a = #[] := Array.size_eq_zero_iff.1 h1
  have hb : b = #[] := Array.size_eq_zero_iff.1 h2
  rw [ha, hb]
theorem zeroCell_rep {w : World} {M : Nat → Nat → Prop} {β : Nat → Value} {H : List (Nat × Ob)} {u : Value} {v : V} (h : zeroCell u v = true) : RepV w M β H v u := by
  unfold zeroCell at h
  split at h
  · simp only [Bool.and_eq_true, decide_eq_true_eq] at h; obtain ⟨rfl, rfl⟩ := h; rfl
  · simp only [beq_iff_eq] at h; subst h; rfl
  · simp only [Bool.and_eq_true, beq_iff_eq] at h; rw [empty_str h.1 h.2]; rfl
  · rfl
  · exact ⟨rfl, rfl⟩
  · exact ⟨rfl, rfl⟩
  · exact ⟨rfl, rfl⟩
  · cases h
theorem zeroRep_rep {w : World} {M : Nat → Nat → Prop} {β : Nat → Value} {H : List (Nat × Ob)} : ∀ {us : List Value} {vs : List V}, zeroRep us vs = true → RepL w M β H vs us
  | [], [], _ => rfl
  | u :: us, v :: vs, h => by
    simp only [zeroRep, Bool.and_eq_true] at h
    exact ⟨u, us, rfl, zeroCell_rep h.1, zeroRep_rep h.2⟩
  | [], _ :: _, h => by cases h
  | _ :: _, [], h => by cases h
theorem zero_parts {P : Program} {t : Nat} {vs : List V} (h : TZero P t vs) : ∃ i z, P.info? t = some i ∧ i.zero = some z ∧ zeroRep z.cells.toList vs = true ∧ i.size = z.cells.size := by
  have := h.ok
  unfold zeroOk at this
  cases hi : P.info? t with
  | none => rw [hi] at this; cases this
  | some i =>
    rw [hi] at this
    dsimp only at this
    cases hz : i.zero with
    | none => rw [hz] at this; cases this
    | some z =>
      rw [hz] at this
      simp only [Bool.and_eq_true, beq_iff_eq] at this
      exact ⟨i, z, rfl, hz, this.1, this.2⟩
inductive MapD : List D → List V → Prop
  | nil : MapD [] []
  | cons {x : D} {xs : List D} {vs : List V} (h : MapD xs vs) : MapD (x :: xs) (.d x :: vs)
  | nils {sz : Nat} {xs : List D} {vs : List V} (h : MapD xs vs) : MapD (.nil sz :: xs) (.nils sz :: vs)
inductive CellsV : V → List V → Prop
  | d {x : D} {cs : List D} {vs : List V} (h : CellsD x cs) (m : MapD cs vs) : CellsV (.d x) vs
  | own (n k : Nat) : CellsV (.own n k) [.own n k]
  | nils (sz : Nat) : CellsV (.nils sz) [.nils sz]
  | ptr (n o : Nat) : CellsV (.ptr n o) [.ptr n o]
  | sl (n o l c : Nat) : CellsV (.sl n o l c) [.sl n o l c]
  | map (n : Nat) : CellsV (.map n) [.map n]
  | clo (fn : Fn) (f c : List V) : CellsV (.clo fn f c) [.clo fn f c]
  | agg (vs : List V) : CellsV (.agg vs) vs
theorem MapD.rep {w : World} {M : Nat → Nat → Prop} {β : Nat → Value} {H : List (Nat × Ob)} {xs : List D} {vs : List V} (h : MapD xs vs) : ∀ {us : List Value}, RepA w M xs us → RepL w M β H vs us := by
  induction h with
  | nil => intro us h; exact h
  | cons _ ih => intro us h; obtain ⟨u, r, h1, _, h3, h4⟩ := h; exact ⟨u, r, h1, h3, ih h4⟩
  | nils _ ih => intro us h; obtain ⟨u, r, h1, _, h3, h4⟩ := h; exact ⟨u, r, h1, h3, ih h4⟩
theorem CellsV.rep {C : Ctx} {β : Nat → Value} {S : Sd} {a : Act} {w : World} (h : StB C β S a w) {v : V} {vs : List V} (hc : CellsV v vs) {u : Value} (hu : RepV w (Mut C.M0 β S.H) β S.H v u) (hown : ∀ n k, v = .own n k → ∃ e sz sh xs, look n S.H = some (.row e sz sh xs k)) :
    RepL w (Mut C.M0 β S.H) β S.H vs u.cells.toList ∧ ∀ x ∈ u.cells.toList, x.oneCell' = true := by
  cases hc with
  | d hx m => exact ⟨m.rep (hx.rep hu), RepD.one hu⟩
  | own n k =>
    obtain ⟨e, sz, sh, xs, hl⟩ := hown n k rfl
    have h0 := hu e sz sh xs hl
    obtain ⟨ys, h1, _⟩ := h.obs n _ hl
    obtain ⟨ad, c, h2, _⟩ := owns_shape h1
    rw [h2] at h0
    subst h0
    exact ⟨⟨_, [], rfl, hu, rfl⟩, fun x hx => by simp [Value.cells] at hx; subst hx; rfl⟩
  | nils => have h0 := hu; simp only [RepV] at hu; subst hu; exact ⟨⟨_, [], rfl, h0, rfl⟩, fun x hx => by simp [Value.cells] at hx; subst hx; rfl⟩
  | ptr => have h0 := hu; simp only [RepV] at hu; obtain ⟨b, _, rfl⟩ := hu; exact ⟨⟨_, [], rfl, h0, rfl⟩, fun x hx => by simp [Value.cells] at hx; subst hx; rfl⟩
  | sl => have h0 := hu; simp only [RepV] at hu; obtain ⟨b, _, rfl⟩ := hu; exact ⟨⟨_, [], rfl, h0, rfl⟩, fun x hx => by simp [Value.cells] at hx; subst hx; rfl⟩
  | map => have h0 := hu; simp only [RepV] at hu; obtain ⟨b, _, rfl⟩ := hu; exact ⟨⟨_, [], rfl, h0, rfl⟩, fun x hx => by simp [Value.cells] at hx; subst hx; rfl⟩
  | agg vs => obtain ⟨us, rfl, h1, h2⟩ := hu; exact ⟨by simpa [Value.cells] using h2, fun x hx => h1 x (by simpa [Value.cells] using hx)⟩
  | clo => have h0 := hu; simp only [RepV] at hu; obtain ⟨b, c, rfl, _⟩ := hu; exact ⟨⟨_, [], rfl, h0, rfl⟩, fun x hx => by simp [Value.cells] at hx; subst hx; rfl⟩
def ownOk (S : Sd) (v : V) : Bool := match v with
  | .own n k => (match look n S.H with | some (.row _ _ _ _ k') => Nat.beq k' k | _ => false)
  | _ => true
theorem ownOk_row {S : Sd} {n k e sz : Nat} {sh : Bool} {xs : List D} (h : look n S.H = some (.row e sz sh xs k)) : ownOk S (.own n k) = true := by simp [ownOk, h]
theorem ownOk_spec {S : Sd} {v : V} (h : ownOk S v = true) : ∀ n k, v = .own n k → ∃ e sz sh xs, look n S.H = some (.row e sz sh xs k) := by
  rintro n k rfl
  simp only [ownOk] at h
  split at h
  · rename_i e sz sh xs k' hl
    obtain rfl := Nat.eq_of_beq_eq_true h
    exact ⟨e, sz, sh, xs, hl⟩
  · cases h
theorem saysL_of {vs : List V} {n : Nat} (h : saysL n vs = false) {w w' : World} {M M' : Nat → Nat → Prop} {β β' : Nat → Value} {H H' : List (Nat × Ob)} (k : Keeps w M w' M') (hβ : ∀ m, m ≠ n → β' m = β m) (hH : ∀ m, m ≠ n → look m H' = look m H) {us : List Value}
    (hr : RepL w M β H vs us) : RepL w' M' β' H' vs us := RepL.fresh k hβ hH vs us h hr
section
variable {E : Set} {S : Sd} {dst : Option Tmp} {ty : TypeId} {pos : String} {af : Array Edge} {gd : Option (Nat × Bool)}
theorem StB.newBox {C : Ctx} {β : Nat → Value} {a : Act} {w : World} (h : StB C β S a w) {n : Nat} (hn : S.fresh n = true) {cs : List V} (hs : saysL n cs = false) {us : List Value} (hr : RepL w (Mut C.M0 β S.H) β S.H cs us) (t : TypeId) :
    StB C (upd β n (.pointer (some ⟨w.heap.size, 0, none⟩))) { S with H := (n, .box cs) :: S.H } a (w.alloc (.cells us.toArray t)) := by
  refine h.newObj hn (.pointer (some ⟨w.heap.size, 0, none⟩)) (Grows.alloc w _) (fun b hb' => ?_) (.box cs) fun k => ?_
  · simp only [hb, Option.some.injEq] at hb'
    omega
  · exact ⟨w.heap.size, us, t, rfl, heap_alloc_new w _, saysL_of hs k (fun m hm => upd_other β n _ hm) (fun m hm => by rw [look_set, if_neg (Ne.symm hm)]) hr⟩
theorem g_alloc {d n t : Nat} {vs : List V} [ht : TZero E.P t vs] (hn : S.fresh n = true) (hs : saysL n vs = false) : Grow E S ⟨some d, .alloc t, ty, pos, af, gd⟩ { S with H := (n, .box vs) :: S.H } (.ptr n 0) := Grow.mk fun β a w h => by
  obtain ⟨i, z, hi, hz, h1, h2⟩ := zero_parts ht
  refine ⟨.pointer (some ⟨w.heap.size, 0, none⟩), w.alloc (.cells z.cells t), upd β n (.pointer (some ⟨w.heap.size, 0, none⟩)), ?_, Grows.alloc w _, ?_, ⟨w.heap.size, upd_same _ _ _, rfl⟩⟩
  · simp [execOp, Instr.alloc, zeroValue, typeInfo, hi, hz, newVar, newRow]
  · have := h.newBox hn hs (zeroRep_rep h1) t
    simpa using this
theorem g_box {d n t : Nat} {x : Operand} {v : V} {vs : List V} (hx : S.ev x = some v) (hox : okOp x = true) (hown : ownOk S v = true) (hc : CellsV v vs) (hn : S.fresh n = true) (hs : saysL n vs = false) : Grow E S ⟨some d, .box t x, ty, pos, af, gd⟩ { S with H := (n, .box vs) :: S.H } (.ptr n 0) := Grow.mk fun β a w h => by
  obtain ⟨h1, _⟩ := hc.rep h (h.ev hx hox) (ownOk_spec hown)
  refine ⟨.pointer (some ⟨w.heap.size, 0, none⟩), w.alloc (.cells (a.eval x).cells t), upd β n (.pointer (some ⟨w.heap.size, 0, none⟩)), ?_, Grows.alloc w _, ?_, ⟨w.heap.size, upd_same _ _ _, rfl⟩⟩
  · simp [execOp, Instr.box, newVar, newRow]
  · have := h.newBox hn hs h1 t
    simpa using this
theorem StB.setBoxes {C : Ctx} {β : Nat → Value} {a : Act} {w : World} (h : StB C β S a w) {n b : Nat} {cs xs cs' : List V} (hl : look n S.H = some (.box cs)) (hb' : β n = .pointer (some ⟨b, 0, none⟩)) {o : Nat} (hr : Repl cs o xs cs') {us : List Value}
    (hx : RepL w (Mut C.M0 β S.H) β S.H xs us) {vs : List Value} {t : TypeId} (hv : w.heap[b]? = some (.cells vs.toArray t (0, 0))) :
    StB C β { S with H := (n, .box cs') :: S.H } a (w.setRow b (vs.take o ++ us ++ vs.drop (o + us.length)).toArray) := by
  obtain ⟨b2, vs2, t2, h1, h2, h3⟩ := h.obs n _ hl
  rw [hb'] at h1
  cases h1
  rw [hv] at h2
  simp only [Option.some.injEq, Obj.cells.injEq] at h2
  obtain ⟨e1, rfl, _⟩ := h2
  have e1 : vs = vs2 := by simpa using congrArg Array.toList e1
  subst e1
  have hbn : hb (β n) = some b := by rw [hb']; rfl
  have hH : ∀ m e sz sh xs k, look m ((n, Ob.box cs') :: S.H) = some (.row e sz sh xs k) → ∃ sh' xs', look m S.H = some (.row e sz sh' xs' k) := fun m e sz sh xs k hm => by
    rw [look_set] at hm
    split at hm
    · cases hm
    · exact ⟨sh, xs, hm⟩
  refine h.turn hl (fun _ _ => rfl) rfl rfl rfl (by simp) (fun k _ hk => setRow_other w b k _ (fun e => hk (by rw [hbn, e]))) (fun b h => .inl h) (fun b' o' y h4 h5 _ => absurd trivial h5) (fun _ _ _ _ _ => trivial)
    (fun k t x v _ => RepV.keep k (fun _ => rfl) hH x v) (fun _ => rfl) (fun k m cs vs _ _ => RepL.keep k (fun _ => rfl) hH cs vs) (fun k => ?_)
  refine ⟨b, _, t, hb', setRow_heap w b _ _ t _ hv, RepL.keep k (fun _ => rfl) hH _ _ ?_⟩
  obtain ⟨e2, _⟩ := hr.eq
  have hlen := hx.length
  rw [e2, ← hlen]
  have happ : ∀ {l1 : List V} {m1 : List Value}, RepL w (Mut C.M0 β S.H) β S.H l1 m1 → ∀ {l2 : List V} {m2 : List Value}, RepL w (Mut C.M0 β S.H) β S.H l2 m2 → RepL w (Mut C.M0 β S.H) β S.H (l1 ++ l2) (m1 ++ m2) := by
    intro l1
    induction l1 with
    | nil => intro m1 h l2 m2 h'; simp only [RepL] at h; subst h; exact h'
    | cons y l ih => intro m1 h l2 m2 h'; obtain ⟨v, r, rfl, h5, h6⟩ := h; exact ⟨v, _, rfl, h5, ih h6 h'⟩
  have htake : ∀ (k : Nat) {l : List V} {m : List Value}, RepL w (Mut C.M0 β S.H) β S.H l m → RepL w (Mut C.M0 β S.H) β S.H (l.take k) (m.take k) ∧ RepL w (Mut C.M0 β S.H) β S.H (l.drop k) (m.drop k) := by
    intro k
    induction k with
    | zero => intro l m h; exact ⟨by simp [RepL], h⟩
    | succ k ih =>
      intro l m h
      cases l with
      | nil => simp only [RepL] at h; subst h; exact ⟨by simp [RepL], by simp [RepL]⟩
      | cons y l => obtain ⟨v, r, rfl, h5, h6⟩ := h; exact ⟨⟨v, _, rfl, h5, (ih h6).1⟩, (ih h6).2⟩
  exact happ (happ (htake o h3).1 hx) (htake _ h3).2
theorem t_store {t n off m : Nat} {x y : Operand} {v : V} {vs cs cs' : List V} [ht : TSize E.P t m] (hx : S.ev x = some (.ptr n off)) (hox : okOp x = true) (hy : S.ev y = some v) (hoy : okOp y = true) (hown : ownOk S v = true) (hl : look n S.H = some (.box cs)) (hc : CellsV v vs) (hm : vs.length = m) (hr : Repl cs off vs cs') :
    Turn E S ⟨none, .store t x y, ty, pos, af, gd⟩ { S with H := (n, .box cs') :: S.H } := Turn.mk fun β a w h => by
  obtain ⟨b, h1, h2⟩ := h.ev hx hox
  obtain ⟨b2, us, t2, h3, h4, h5⟩ := h.obs n _ hl
  rw [h1] at h3
  cases h3
  obtain ⟨h6, h7⟩ := hc.rep h (h.ev hy hoy) (ownOk_spec hown)
  obtain ⟨_, h8⟩ := hr.eq
  have hlen := h6.length
  have hlen5 := h5.length
  have hst := run_storeCells_at E.P b off t2 (a.eval y).cells.toList 0 us.toArray w h4 (by simp at hlen ⊢; omega) h7
  simp only [Nat.add_zero] at hst
  cases hi : E.P.info? t with
  | none => have := ht.ok; rw [hi] at this; cases this
  | some i =>
    have hsz : i.size = m := by have := ht.ok; rw [hi] at this; simpa using this
    have hsz2 : (a.eval y).cells.size = i.size := by simp at hlen; omega
    refine ⟨_, ?_, β, h.setBoxes hl h1 hr h6 h4⟩
    simp [execOp, h2, Instr.storeAt, Instr.sureAddr, storeVar, run_size hi, hsz2, hst]
end
end Go.Proofs.YtcblefmjacofgaaGreatDoor
namespace Go.Proofs.YtcblefmjacofgaaGreatDoor
open Go.RowKit
inductive Pure : V → Prop
  | d (x : D) : Pure (.d x)
  | nils (sz : Nat) : Pure (.nils sz)
  | tup {vs : List V} (h : ∀ v ∈ vs, Pure v) : Pure (.tup vs)
  | clo {fn : Fn} {f c : List V} (h : ∀ v ∈ f, Pure v) (h' : ∀ v ∈ c, Pure v) : Pure (.clo fn f c)
theorem RepL.pure {w w' : World} {M M' : Nat → Nat → Prop} {β β' : Nat → Value} {H H' : List (Nat × Ob)} : ∀ {vs : List V}, (∀ v ∈ vs, ∀ u, RepV w M β H v u → RepV w' M' β' H' v u) → ∀ {us : List Value}, RepL w M β H vs us → RepL w' M' β' H' vs us
  | [], _, _, h => h
  | v :: vs, hv, _, ⟨u, r, h1, h2, h3⟩ => ⟨u, r, h1, hv v List.mem_cons_self u h2, RepL.pure (fun v hm => hv v (List.mem_cons_of_mem _ hm)) h3⟩
theorem Pure.keep {v : V} (hp : Pure v) : ∀ {w w' : World} {M M' : Nat → Nat → Prop} {β β' : Nat → Value} {H H' : List (Nat × Ob)}, Keeps w M w' M' → ∀ u, RepV w M β H v u → RepV w' M' β' H' v u := by
  induction hp with
  | d x => intro w w' M M' β β' H H' k u h; exact RepD.keep k x u h
  | nils => intro w w' M M' β β' H H' k u h; exact h
  | tup _ ih =>
    intro w w' M M' β β' H H' k u h
    obtain ⟨us, h1, h2⟩ := h
    exact ⟨us, h1, RepL.pure (fun v hv u hu => ih v hv k u hu) h2⟩
  | clo _ _ ih ih' =>
    intro w w' M M' β β' H H' k u h
    obtain ⟨fs, gs, h1, h2, h3⟩ := h
    exact ⟨fs, gs, h1, RepL.pure (fun v hv u hu => ih v hv k u hu) h2, RepL.pure (fun v hv u hu => ih' v hv k u hu) h3⟩
inductive Arg (H : List (Nat × Ob)) : V → V → Prop
  | d (x : D) : Arg H (.d x) (.d x)
  | own {n k e sz : Nat} {xs : List D} (h : look n H = some (.row e sz true xs k)) : Arg H (.own n k) (.d (.list sz xs))
  | nils (sz : Nat) : Arg H (.nils sz) (.d (.list sz []))
  | clo0 (fn : Fn) : Arg H (.clo fn [] []) (.clo fn [] [])
inductive Args (H : List (Nat × Ob)) : List V → List V → Prop
  | nil : Args H [] []
  | cons {v v' : V} {vs vs' : List V} (h : Arg H v v') (t : Args H vs vs') : Args H (v :: vs) (v' :: vs')
theorem Arg.rep {C : Ctx} {β : Nat → Value} {S : Sd} {a : Act} {w : World} (h : StB C β S a w) {v v' : V} (ha : Arg S.H v v') {u : Value} (hu : RepV w (Mut C.M0 β S.H) β S.H v u) : RepV w (Mut C.M0 β S.H) (fun _ => .nilFunc) [] v' u := by
  cases ha with
  | d x => exact hu
  | own hl => exact (ToD.own hl).rep h hu
  | nils sz => exact (ToD.nils sz).rep h hu
  | clo0 fn => obtain ⟨fs, gs, h1, h2, h3⟩ := hu; exact ⟨fs, gs, h1, h2, h3⟩
theorem Arg.pure {H : List (Nat × Ob)} {v v' : V} (ha : Arg H v v') : Pure v' := by
  cases ha with
  | d x => exact .d x
  | own _ => exact .d _
  | nils sz => exact .d _
  | clo0 fn => exact .clo (fun _ h => by cases h) (fun _ h => by cases h)
theorem Args.rep {C : Ctx} {β : Nat → Value} {S : Sd} {a : Act} {w : World} (h : StB C β S a w) {vs vs' : List V} (ha : Args S.H vs vs') : ∀ {us : List Value}, RepL w (Mut C.M0 β S.H) β S.H vs us → RepL w (Mut C.M0 β S.H) (fun _ => .nilFunc) [] vs' us := by
  induction ha with
  | nil => intro us h; exact h
  | cons h1 _ ih => intro us hu; obtain ⟨u, r, h2, h3, h4⟩ := hu; exact ⟨u, r, h2, h1.rep h h3, ih h4⟩
theorem Args.pure {H : List (Nat × Ob)} {vs vs' : List V} (ha : Args H vs vs') : ∀ v ∈ vs', Pure v := by
  induction ha with
  | nil => intro v hv; cases hv
  | cons h1 _ ih =>
    intro v hv
    rcases List.mem_cons.1 hv with rfl | hv
    · exact h1.pure
    · exact ih v hv
def Globs (gl : List (Nat × List D)) (w : World) (M : Nat → Nat → Prop) : Prop := ∀ g cs, look g gl = some cs → GlobB w M g cs
def FnD (P : Program) (gl : List (Nat × List D)) (f : FuncId) (args : List V) (R : V → Prop) : Prop :=
  ∀ (w : World) (M : Nat → Nat → Prop) (us : List Value), (∀ b o, M b o → b < w.heap.size) → RepL w M (fun _ => .nilFunc) [] args us → Globs gl w M →
    Calls P f us.toArray w fun e w' => ∃ v x, R v ∧ Pure v ∧ e = .returned x ∧ Below w.heap.size w w' ∧ RepV w' M (fun _ => .nilFunc) [] v x
theorem FnD.mono {P : Program} {gl : List (Nat × List D)} {f : FuncId} {args : List V} {R R' : V → Prop} (h : FnD P gl f args R) (hr : ∀ v, R v → R' v) : FnD P gl f args R' :=
  fun w M us h1 h2 h3 => (h w M us h1 h2 h3).mono fun _ _ ⟨v, x, h4, h5⟩ => ⟨v, x, hr v h4, h5⟩
theorem StB.mut_low {C : Ctx} {β : Nat → Value} {S : Sd} {a : Act} {w : World} (h : StB C β S a w) : ∀ b o, Mut C.M0 β S.H b o → b < w.heap.size := by
  rintro b o (hm | ⟨n, ob, h1, h2, _⟩)
  · have := h.low b o hm
    have := h.frame.size
    omega
  · exact h.old h1 h2
section
variable {E : Set} {Q : Exit → Sd → Prop} {S : Sd} {ops : Array Oper} {draw : Bool} {rest : Todo} {way : Way3} {ty : TypeId} {pos : String} {af : Array Edge} {gd : Option (Nat × Bool)}
theorem run_call {P : Program} {f : Nat} (hf : TFun P f) (a : Act) (xs : List Operand) (ats : Array TypeId) (dst : Option Tmp) (w : World) :
    (execOp a.eval ⟨dst, .call { callee := .value (.func f), args := xs.toArray, argTypes := ats }, ty, pos, af, gd⟩).run P w = .ok (.enter f (xs.map a.eval).toArray) w := by
  have := hf.ok
  unfold callOk at this
  cases hfn : P.funcs[f]? with
  | none => rw [hfn] at this; cases this
  | some fn =>
    rw [hfn] at this
    simp only [Bool.and_eq_true, Bool.not_eq_true'] at this
    have h2 : ¬ fn.name = "runtime.NumGoroutine" := by simpa using this.2
    cases hb : fn.body with
    | none => rw [hb] at this; cases this.1
    | some c => simp [execOp, resolve, Act.eval, Deferred.ofValue, invoke, callFunc, hfn, hb, h2]
theorem tr_call {d f : Nat} {xs : List Operand} {ats : Array TypeId} {vs vs' : List V} {R : V → Prop} [hf : TFun E.P f] (hx : Evs S xs vs) (ha : Args S.H vs vs') (hc : FnD E.P S.gl f vs' R) (hd : d < E.C.nt) {o : Oper}
    (ho : o = ⟨some d, .call { callee := .value (.func f), args := xs.toArray, argTypes := ats }, ty, pos, af, gd⟩) (hg : S.gd ops o = some true) (hw : way.loud = true)
    (h : ∀ v, R v → TR E draw ops Q rest (S.put d v)) : TR E draw ops Q (.step o way rest) S := fun a w hS => by
  have hS0 := hS
  have key : ∀ w1, Grows w w1 → ∀ K : Act → World → Prop, (∀ a2 w2 v, R v → Grows w1 w2 → St E.C (S.put d v) a2 w2 → K a2 w2) → o.wp E.P a w1 K (Qof E.C Q) := fun w1 g K hK => by
    obtain ⟨β, hB⟩ := hS.later g
    unfold Oper.wp
    subst ho
    rw [run_call hf, Oper.upon_enter]
    refine (hc w1 (Mut E.C.M0 β S.H) _ hB.mut_low (ha.rep hB (hx.rep hB)) hB.glob).mono ?_
    rintro e w2 ⟨v, x, hr, hp, rfl, hb', hv⟩
    have g2 : Grows w1 w2 := hb'
    refine hK _ _ v hr g2 ⟨β, (hB.later g2).put hd (hp.keep (Keeps.refl _ _) x hv)⟩
  have hdf : isDefer o = false := by subst ho; rfl
  cases draw with
  | true =>
    dsimp only
    cases way with
    | pure => cases hw
    | quiet => cases hw
    | grow =>
      simp only [wpMix3]
      intro n
      rw [Sd.gd_sound hS0 hg, if_pos rfl]
      exact key n.w n.grows _ fun a2 w2 v hr g2 hs2 => ⟨g2, h v hr _ _ hs2⟩
    | bar =>
      simp only [wpMix3]
      intro n
      rw [Sd.gd_sound hS0 hg, if_pos rfl]
      exact key n.w n.grows _ fun a2 w2 v hr g2 hs2 => h v hr _ _ hs2
  | false => exact listIn_of_wp hS0 hg hdf fun K hK => key w (Grows.refl w) K fun a2 w2 v hr _ hs2 => hK _ _ (h v hr _ _ hs2)
inductive Res (P : Program) (S : Sd) : List ResultVar → List V → Prop
  | nil : Res P S [] []
  | tmp {t : Tmp} {v v' : V} {rs : List ResultVar} {vs : List V} (hl : S.ev (.tmp t) = some v) (ha : Arg S.H v v') (h : Res P S rs vs) : Res P S (.tmp t :: rs) (v' :: vs)
  | cell {t n ty off : Nat} {cs : List V} {v v' : V} {rs : List ResultVar} {vs : List V} [ht : TCell P ty] (hl : S.ev (.tmp t) = some (.ptr n off)) (hb : look n S.H = some (.box cs)) (hc : cs[off]? = some v) (ha : Arg S.H v v') (h : Res P S rs vs) : Res P S (.cell t ty :: rs) (v' :: vs)
  | cells {t n ty off m : Nat} {cs cs' : List V} {ds : List D} {rs : List ResultVar} {vs : List V} [ht : TAgg P ty m] (hl : S.ev (.tmp t) = some (.ptr n off)) (hb : look n S.H = some (.box cs)) (hc : Cut cs off m cs') (ha : ToDs S.H cs' ds) (hn : ds.all D.scalar = true) (h : Res P S rs vs) : Res P S (.cell t ty :: rs) (.d (.agg ds) :: vs)
def oneOf : List V → V
  | [v] => v
  | vs => .tup vs
structure Ends (P : Program) (rs : List ResultVar) (R : V → Prop) (e : Exit) (S : Sd) : Prop where
  how : e = .ret ∨ e = .normal
  res : ∃ vs, Res P S rs vs ∧ R (oneOf vs)
theorem noPanic_ends {P : Program} {rs : List ResultVar} {R : V → Prop} : noPanic (Ends P rs R) := fun c S h => by rcases h.how with h | h <;> cases h
theorem run_value {P : Program} {s : Sem Value} {w w' : World} {x : Value} (h : ((do pure (.value (← s)) : Sem Next)).run P w = .ok (.value x) w') : s.run P w = .ok x w' := by
  simp only [Sem.run_bind] at h
  cases hs : s.run P w with
  | ok v w2 => rw [hs] at h; simp only [Result.andThen_ok, Sem.run_pure, Result.ok.injEq, Next.value.injEq] at h; rw [h.1, h.2]
  | halt x w2 => rw [hs] at h; simp [Result.andThen] at h
theorem run_load_var {P : Program} {a : Act} {t ty : Nat} {w w' : World} {x : Value} {b o : Nat} (he : a.eval (.tmp t) = .pointer (some ⟨b, o, none⟩)) (h : (execOp a.eval ⟨none, .load ty (.tmp t), 0, "", #[], none⟩).run P w = .ok (.value x) w') :
    ((do loadVar ty (← asAddr (a.tmps.getD t undef))) : Sem Value).run P w = .ok x w' := by
  have h1 := run_value (s := Instr.loadAt ty (a.eval (.tmp t))) h
  rw [he] at h1
  have he' : a.tmps.getD t undef = .pointer (some ⟨b, o, none⟩) := he
  rw [he']
  exact h1
theorem res_run {P : Program} {C : Ctx} {β : Nat → Value} {a : Act} {w : World} (h : StB C β S a w) {rs : List ResultVar} {vs : List V} (hr : Res P S rs vs) :
    ∃ us : List Value, (rs.mapM fun | .tmp t => pure (a.tmps.getD t undef) | .cell c t => do loadVar t (← asAddr (a.tmps.getD c undef)) : Sem (List Value)).run P w = .ok us w ∧ RepL w (Mut C.M0 β S.H) (fun _ => .nilFunc) [] vs us ∧ ∀ v ∈ vs, Pure v := by
  induction hr with
  | nil => exact ⟨[], rfl, rfl, fun v hv => by cases hv⟩
  | @tmp t v v' rs vs hl ha hr ih =>
    obtain ⟨us, h1, h2, h3⟩ := ih
    have h5 : RepV w (Mut C.M0 β S.H) β S.H v (a.tmps.getD t undef) := h.ev hl rfl
    refine ⟨a.tmps.getD t undef :: us, ?_, ⟨_, us, rfl, ha.rep h h5, h2⟩, fun v hv => ?_⟩
    · simp only [List.mapM_cons, Sem.run_bind, Sem.run_pure, Result.andThen_ok, h1]
    · rcases List.mem_cons.1 hv with rfl | hv
      · exact ha.pure
      · exact h3 v hv
  | @cell t n ty off cs v v' rs vs ht hl hb hc ha hr ih =>
    obtain ⟨us, h1, h2, h3⟩ := ih
    obtain ⟨x, h4, h5⟩ := (q_load_box (t := ty) (E := ⟨P, C, none⟩) (S := S) (dst := none) (ty := 0) (pos := "") (af := #[]) (gd := none) (x := .tmp t) hl hb hc).out β a w h
    obtain ⟨b, _, _, _, h6, _⟩ := h.boxAt (x := .tmp t) hl hb
    have h7 := run_load_var h6 (h4 w (Grows.refl w))
    refine ⟨x :: us, ?_, ⟨x, us, rfl, ha.rep h h5, h2⟩, fun v hv => ?_⟩
    · simp only [List.mapM_cons, Sem.run_bind] at h7 ⊢
      rw [h7]
      simp only [Result.andThen_ok, h1, Sem.run_pure]
    · rcases List.mem_cons.1 hv with rfl | hv
      · exact ha.pure
      · exact h3 v hv
  | @cells t n ty off m cs cs' ds rs vs ht hl hb hc ha hn hr ih =>
    obtain ⟨us, h1, h2, h3⟩ := ih
    obtain ⟨x, h4, h5⟩ := (q_load_boxs (t := ty) (E := ⟨P, C, none⟩) (S := S) (dst := none) (ty := 0) (pos := "") (af := #[]) (gd := none) (x := .tmp t) hl hb hc ha hn).out β a w h
    obtain ⟨b, _, _, _, h6, _⟩ := h.boxAt (x := .tmp t) hl hb
    have h7 := run_load_var h6 (h4 w (Grows.refl w))
    refine ⟨x :: us, ?_, ⟨x, us, rfl, h5, h2⟩, fun v hv => ?_⟩
    · simp only [List.mapM_cons, Sem.run_bind] at h7 ⊢
      rw [h7]
      simp only [Result.andThen_ok, h1, Sem.run_pure]
    · rcases List.mem_cons.1 hv with rfl | hv
      · exact .d _
      · exact h3 v hv
structure After (Ds : List Nat) (w w' : World) : Prop where
  os : w'.os = w.os
  tape : w'.tape = w.tape
  output : w'.output = w.output
  size : w'.heap.size = w.heap.size
  block : ∀ k, k ∉ Ds → w'.heap[k]? = w.heap[k]?
theorem leaves_marks {F : Fence} {n : Nat} {P : Program} {fn : Func} {tmps : Array Value} {R : Ending → World → Prop} : ∀ (Ds : List Nat) (w : World), Ds.Nodup → (∀ D ∈ Ds, w.heap[D]? = some (.deferred (some []))) →
    (∀ w', After Ds w w' → LeavesIn F n P fn tmps R [] .returning w') → LeavesInM F n P fn tmps R (Ds.map markOf) .returning w
  | [], w, _, _, h => h w ⟨rfl, rfl, rfl, rfl, fun _ _ => rfl⟩
  | D :: Ds, w, hnd, hD, h => by
    obtain ⟨h1, h2⟩ := List.nodup_cons.1 hnd
    refine ⟨by simp, .inl ⟨D, _, rfl, run_takeDeferred (hD D List.mem_cons_self), leaves_marks Ds (w.putObj D (.deferred none)) h2 (fun D' h' => ?_) (fun w' hw' => h w' ?_)⟩⟩
    · rw [World.putObj_heap_other (by rintro rfl; exact h1 h')]
      exact hD D' (List.mem_cons_of_mem _ h')
    · refine ⟨hw'.os, hw'.tape, hw'.output, hw'.size.trans (by simp [World.putObj]), fun k hk => ?_⟩
      rw [List.mem_cons, not_or] at hk
      rw [hw'.block k hk.2, World.putObj_heap_other hk.1]
theorem StB.after {C : Ctx} {β : Nat → Value} {a : Act} {w w' : World} (h : StB C β S a w) {Ds : List Nat} (hD : ∀ D ∈ Ds, w.heap[D]? = some (.deferred (some [])) ∧ C.w0.heap.size ≤ D ∧ ∀ p ∈ C.sys, p.1 ≠ D) (k : After Ds w w') : StB C β S { a with defers := [] } w' := by
  have hn : ∀ b o, w.heap[b]? = some o → sysO o = false → b ∉ Ds := fun b o ho hs hb => by
    rw [(hD b hb).1] at ho
    cases ho
    cases hs
  have kp : Keeps w (Mut C.M0 β S.H) w' (Mut C.M0 β S.H) := ⟨fun b o y h1 h2 => ⟨h1, by
    have : b ∉ Ds := fun hb => by simp [World.cell?, (hD b hb).1] at h2
    rw [← h2]
    exact World.cell?_of_block (k.block b this)⟩, fun b ob hs h1 h2 => ⟨h1, (k.block b (hn b _ h2 hs)).trans h2⟩⟩
  have hr : ∀ n e sz sh xs q, look n S.H = some (.row e sz sh xs q) → ∃ sh' xs', look n S.H = some (.row e sz sh' xs' q) := fun n e sz sh xs q h => ⟨sh, xs, h⟩
  refine ⟨h.size, h.small, ⟨[], rfl, List.nodup_nil, fun D h => by cases h⟩, fun p hp => ⟨(k.block p.1 (fun hb => (hD p.1 hb).2.2 p hp rfl)).trans (h.sys p hp).1, (h.sys p hp).2⟩, fun t v hl => ?_, fun n ob hl => ?_, h.apart, h.place, fun g cs hl => (h.glob g cs hl).keep kp, ?_, h.out, h.low, h.fix, h.has⟩
  · obtain ⟨x, h1, h2⟩ := h.env t v hl
    exact ⟨x, h1, RepV.keep kp (fun _ => rfl) hr v x h2⟩
  · have h1 := h.obs n ob hl
    refine RepO.keep kp (fun b hb' => ?_) (fun cs vs _ h2 => RepL.keep kp (fun _ => rfl) hr _ _ h2) h1
    obtain ⟨o, h2, h3, _⟩ := h1.kind hb'
    exact k.block b (hn b o h2 h3)
  · exact ⟨k.os.trans h.frame.os, k.tape.trans h.frame.tape, k.output.trans h.frame.output, by rw [k.size]; exact h.frame.size, fun i hi he => (k.block i (fun hb => by have := (hD i hb).2.1; omega)).trans (h.frame.block i hi he)⟩
theorem calls_of_tc {P : Program} {f : FuncId} {fn : Func} {c : Code} {C : Ctx} {S : Sd} {us : List Value} {w : World} {Q : Exit → Sd → Prop} {R : Ending → World → Prop} (hf : P.funcs[f]? = some fn) (hb : fn.body = some c) (h : TC ⟨P, C, none⟩ c Q S)
    (hst : St C S { tmps := us.toArray ++ Array.replicate (fn.ntmps - us.toArray.size) undef, defers := [] } w)
    (hR : ∀ e S' β a' w', StB C β S' a' w' → Q e S' → (e = .ret ∨ e = .normal) ∧ ∃ x, (results fn a'.tmps).run P w' = .ok x w' ∧ R (.returned x) w') : Calls P f us.toArray w R := by
  refine (callsIn_wide (n := 0)).1 (callsIn_of_wp_marks hf hb trivial ?_ rfl)
  refine wpIn_mono (h _ _ hst) fun e a' w' hq => ?_
  obtain ⟨S', ⟨β, hB⟩, hq⟩ := hq
  obtain ⟨Ds, h1, h2, h3⟩ := hB.defers
  have key : LeavesInM (WF none) 0 P fn a'.tmps R a'.defers .returning w' := by
    rw [h1]
    refine leaves_marks Ds w' h2 (fun D hD => (h3 D hD).1) fun w2 hw2 => ?_
    obtain ⟨_, x, h4, h5⟩ := hR e S' β { a' with defers := [] } w2 (hB.after h3 hw2) hq
    exact ⟨x, h4, h5⟩
  rcases (hR e S' β _ _ hB hq).1 with rfl | rfl <;> exact key
def slots (args : List V) : List (Nat × V) := args.zipIdx.map fun x => (x.2, x.1)
theorem env_args {w : World} {M : Nat → Nat → Prop} {β : Nat → Value} {H : List (Nat × Ob)} {args : List V} {us : List Value} (hargs : RepL w M β H args us) {C : Ctx} {nt : Nat} (hle : args.length ≤ nt) (hs : nt ≤ 100000) {t : Nat} {v : V} (hl : look t (slots args) = some v) :
    ∃ x, slotV C { tmps := us.toArray ++ Array.replicate (nt - us.toArray.size) undef, defers := [] } t = some x ∧ RepV w M β H v x := by
  have hm := look_mem hl
  obtain ⟨⟨v', t'⟩, h1, h2⟩ := List.mem_map.1 hm
  simp only [Prod.mk.injEq] at h2
  obtain ⟨rfl, rfl⟩ := h2
  have h3 : args[t']? = some v' := by
    have := List.mem_zipIdx h1
    simp at this
    obtain ⟨h4, h5⟩ := this
    rw [h5]
    exact List.getElem?_eq_getElem h4
  obtain ⟨u, h4, h5⟩ := RepL.get hargs h3
  refine ⟨u, ?_, h5⟩
  have hlt : t' < us.length := (List.getElem?_eq_some_iff.1 h4).1
  have hlen := hargs.length
  have : Nat.blt t' 100000 = true := Nat.ble_eq_true_of_le (by omega)
  simp only [slotV, this, cond_true]
  rw [Array.getElem?_append_left (by simpa using hlt)]
  simpa using h4
theorem run_results {P : Program} {fn : Func} {rs : Array ResultVar} {a : Act} {w : World} {us' : List Value} (hr : fn.results = rs) (h3 : (rs.toList.mapM fun | .tmp t => pure (a.tmps.getD t undef) | .cell c t => do loadVar t (← asAddr (a.tmps.getD c undef)) : Sem (List Value)).run P w = .ok us' w) :
    (results fn a.tmps).run P w = .ok (if h : us'.toArray.size = 1 then us'.toArray[0] else .tuple us'.toArray) w := by
  unfold results
  rw [hr, Array.mapM_eq_mapM_toList]
  simp only [Sem.run_bind, Sem.run_map]
  refine (congrArg (fun r : Result (List Value) => (r.andThen fun a w' => Result.ok a.toArray w').andThen fun a w' => Sem.run P (pure (if h : a.size = 1 then a[0] else Value.tuple a)) w') h3).trans ?_
  simp only [Result.andThen_ok, Sem.run_pure]
theorem rep_oneOf {w : World} {M : Nat → Nat → Prop} {β : Nat → Value} {H : List (Nat × Ob)} {vs : List V} {us : List Value} (h6 : RepL w M β H vs us) : RepV w M β H (oneOf vs) (if h : us.toArray.size = 1 then us.toArray[0] else .tuple us.toArray) := by
  have hlen := h6.length
  unfold oneOf
  split
  · obtain ⟨u, r, rfl, h7, h8⟩ := h6
    simp only [RepL] at h8
    subst h8
    exact h7
  · rename_i hne
    have : us.toArray.size ≠ 1 := by
      intro h1
      rw [List.size_toArray, hlen] at h1
      obtain ⟨v, hv⟩ := List.length_eq_one_iff.1 h1
      exact hne v hv
    rw [dif_neg this]
    exact ⟨us, rfl, h6⟩
theorem fn_intro {P : Program} {gl : List (Nat × List D)} {f : FuncId} {fn : Func} {c : Code} {args : List V} {R : V → Prop} {nt : Nat} {rs : Array ResultVar} (hf : P.funcs[f]? = some fn) (hb : fn.body = some c) (hn : fn.ntmps = nt) (hr : fn.results = rs) (hle : args.length ≤ nt) (hs : nt ≤ 100000)
    (h : ∀ w M, TC ⟨P, Ctx.fn nt w M, none⟩ c (Ends P rs.toList R) ⟨slots args, [], gl⟩) : FnD P gl f args R := fun w M us hlow hargs hgl => by
  have hlen := hargs.length
  have hM : Mut M (fun _ => .nilFunc) [] = M := by
    funext b o
    apply propext
    constructor
    · rintro (h | ⟨n, ob, h1, _⟩)
      · exact h
      · cases h1
    · exact .inl
  refine calls_of_tc hf hb (h w M) ?_ fun e S' β a' w' hB hq => ⟨hq.how, ?_⟩
  · refine ⟨fun _ => .nilFunc, ⟨?_, hs, ⟨[], rfl, List.nodup_nil, (fun D h => by cases h)⟩, (fun p hp => by cases hp), ?_, (fun n ob hl => by cases hl), (fun n m b ob ob' _ hl => by cases hl), (fun n ob b hl => by cases hl), ?_, Frm.refl _ _, (fun n ob b o hl => by cases hl), hlow, (fun n hn => by cases hn), (fun n hn => by cases hn)⟩⟩
    · simp [hn, Ctx.fn]; omega
    · intro t v hl
      dsimp only [Ctx.fn] at hl ⊢
      rw [hM, hn]
      exact env_args hargs hle hs hl
    · dsimp only [Ctx.fn]
      rw [hM]
      exact hgl
  · obtain ⟨_, vs, hres, hR⟩ := hq
    obtain ⟨us', h3, h4, h5⟩ := res_run hB hres
    have hk : Keeps w' (Mut M β S'.H) w' M := Keeps.weak fun b o hm => .inl hm
    refine ⟨_, run_results hr h3, oneOf vs, _, hR, ?_, rfl, Frm.below (w := w) hB.frame, rep_oneOf (RepL.pure (fun v hv u hu => (h5 v hv).keep hk u hu) h4)⟩
    unfold oneOf
    split
    · exact h5 _ (by simp)
    · exact .tup h5
end
end Go.Proofs.YtcblefmjacofgaaGreatDoor
namespace Go.Proofs.YtcblefmjacofgaaGreatDoor
open Go.RowKit
inductive Build (P : Program) (S : Sd) (t : Nat) : List D → List (Nat × Operand) → List D → Prop
  | nil (zs : List D) : Build P S t zs [] zs
  | cons {zs zs' ds cs : List D} {f off ft m : Nat} {x : Operand} {v : V} {d : D} {ps : List (Nat × Operand)} [hf : TField P t f off ft] [hs : TSize P ft m] (hx : S.ev x = some v) (ho : okOp x = true) (hd : ToD S.H v d) (hc : CellsD d cs) (hm : cs.length = m) (hr : Repl zs off cs zs') (h : Build P S t zs' ps ds) :
    Build P S t zs ((f, x) :: ps) ds
theorem foldl_repl (off : Nat) (l : List Value) (cs : Array Value) (h : off + l.length ≤ cs.size) :
    (l.toArray.zipIdx.foldl (fun cs (x : Value × Nat) => cs.setIfInBounds (off + x.2) x.1) cs) = (cs.toList.take off ++ l ++ cs.toList.drop (off + l.length)).toArray := by
  have := Go.Great.foldl_set off l 0 cs
  obtain ⟨h1, h2⟩ := this
  have e : l.toArray.zipIdx.foldl (fun cs (x : Value × Nat) => cs.setIfInBounds (off + x.2) x.1) cs = (l.zipIdx 0).foldl (fun cs (x : Value × Nat) => cs.setIfInBounds (off + x.2) x.1) cs := by
    simp
  rw [e]
  apply Array.ext_getElem?
  intro k
  rw [h2 k]
  have hlt : (cs.toList.take off).length = off := by simp; omega
  by_cases hk : off ≤ k ∧ k < off + l.length
  · rw [if_pos (by omega)]
    simp only [List.getElem?_toArray, List.append_assoc]
    rw [List.getElem?_append_right (by omega), List.getElem?_append_left (by omega), hlt]
    congr 1
  · rw [if_neg (by omega)]
    simp only [List.getElem?_toArray, List.append_assoc]
    by_cases hk2 : k < off
    · rw [List.getElem?_append_left (by omega), List.getElem?_take, if_pos hk2]
      simp
    · rw [List.getElem?_append_right (by omega), List.getElem?_append_right (by omega), hlt, List.getElem?_drop]
      simp only [Array.getElem?_toList]
      congr 1
      omega
theorem Build.rep {P : Program} {C : Ctx} {β : Nat → Value} {S : Sd} {a : Act} {w : World} (h : StB C β S a w) {t : Nat} {fs : Array Field} (hu : P.underlying t = some (.struct fs)) {places : Array (Nat × Nat)} (hp : ∀ (f : Nat) (fd : Field) i, fs[f]? = some fd → P.info? fd.type = some i → places[f]? = some (fd.offset, i.size))
    {zs ds : List D} {ps : List (Nat × Operand)} (hb : Build P S t zs ps ds) : ∀ {us : List Value}, RepA w (Mut C.M0 β S.H) zs us →
    ∃ vs : List Value, Instr.fill (places[·]?) us.toArray (ps.map fun x => (x.1, a.eval x.2)) = some vs.toArray ∧ RepA w (Mut C.M0 β S.H) ds vs := by
  induction hb with
  | nil zs => intro us hr; exact ⟨us, rfl, hr⟩
  | @cons zs zs' ds cs f off ft m x v d ps hf hs hx ho hd hc hm hr hb ih =>
    intro us hrep
    obtain ⟨fs', fd, i, hu', h1, h2, h3, h4, _⟩ := field_parts hf
    rw [hu] at hu'
    cases hu'
    have hi : i.size = m := by have := hs.ok; rw [h4] at this; simpa using this
    have hpl := hp f fd i h1 (by rw [h3]; exact h4)
    have hd' := hd.rep h (h.ev hx ho)
    have hcs := hc.rep hd'
    have hlen := hcs.length
    obtain ⟨h5, h6⟩ := hr.eq
    have hul := hrep.length
    have hsz : (a.eval x).cells.size = m := by simp at hlen; omega
    have hnew : RepA w (Mut C.M0 β S.H) zs' (us.take off ++ (a.eval x).cells.toList ++ us.drop (off + (a.eval x).cells.toList.length)) := by
      rw [h5, ← hlen]
      exact ((hrep.take off).append hcs).append (hrep.drop _)
    obtain ⟨vs, h7, h8⟩ := ih hnew
    refine ⟨vs, ?_, h8⟩
    simp only [List.map_cons, Instr.fill, hpl]
    rw [if_neg (by
      simp only [ne_eq, Bool.or_eq_true, decide_eq_true_eq, not_or, Decidable.not_not, List.size_toArray]
      simp at hlen
      omega)]
    have hfo := foldl_repl fd.offset (a.eval x).cells.toList us.toArray (by simp at hlen ⊢; omega)
    rw [Array.toArray_toList] at hfo
    simp only [List.toList_toArray] at hfo
    rw [hfo, h2]
    exact h7
section
variable {E : Set} {S : Sd} {dst : Option Tmp} {ty : TypeId} {pos : String} {af : Array Edge} {gd : Option (Nat × Bool)}
theorem run_places {P : Program} (fs : List Field) (h : ∀ fd ∈ fs, (P.info? fd.type).isSome = true) :
    ∃ ps : List (Nat × Nat), (∀ w, (fs.mapM fun f => do pure (f.offset, ← sizeOf f.type) : Sem (List (Nat × Nat))).run P w = .ok ps w) ∧ ∀ (f : Nat) (fd : Field) i, fs[f]? = some fd → P.info? fd.type = some i → ps[f]? = some (fd.offset, i.size) := by
  induction fs with
  | nil => exact ⟨[], fun _ => rfl, fun f fd i hf => by simp at hf⟩
  | cons x fs ih =>
    obtain ⟨ps, h1, h2⟩ := ih (fun fd hfd => h fd (List.mem_cons_of_mem _ hfd))
    cases hi : P.info? x.type with
    | none => have := h x List.mem_cons_self; rw [hi] at this; cases this
    | some i =>
      refine ⟨(x.offset, i.size) :: ps, fun w => ?_, fun f fd j hf hj => ?_⟩
      · simp only [List.mapM_cons, Sem.run_bind, run_size hi, Result.andThen_ok, Sem.run_pure, h1]
      · cases f with
        | zero => simp at hf; subst hf; rw [hi] at hj; cases hj; rfl
        | succ f => exact h2 f fd j (by simpa using hf) hj
def structOk (P : Program) (t : Nat) : Bool := match P.underlying t with
  | some (.struct fs) => fs.toList.all fun fd => (P.info? fd.type).isSome
  | _ => false
class TStruct (P : Program) (t : Nat) : Prop where
  ok : structOk P t = true
theorem struct_parts {P : Program} {t : Nat} (h : TStruct P t) : ∃ fs, P.underlying t = some (.struct fs) ∧ ∀ fd ∈ fs.toList, (P.info? fd.type).isSome = true := by
  have := h.ok
  unfold structOk at this
  split at this
  · rename_i fs hu
    exact ⟨fs, hu, List.all_eq_true.1 this⟩
  · cases this
inductive ZeroD : List V → List D → Prop
  | nil : ZeroD [] []
  | d {x : D} {vs : List V} {xs : List D} (h : ZeroD vs xs) : ZeroD (.d x :: vs) (x :: xs)
  | nils {sz : Nat} {vs : List V} {xs : List D} (h : ZeroD vs xs) : ZeroD (.nils sz :: vs) (.list sz [] :: xs)
  | none {sz : Nat} {vs : List V} {xs : List D} (h : ZeroD vs xs) : ZeroD (.nils sz :: vs) (.nil sz :: xs)
theorem zeroD_rep {w : World} {M : Nat → Nat → Prop} {vs : List V} {ds : List D} (hz : ZeroD vs ds) : ∀ {us : List Value}, zeroRep us vs = true → RepA w M ds us := by
  induction hz with
  | nil => intro us h; cases us with | nil => rfl | cons _ _ => cases h
  | @d x vs xs hz ih =>
    intro us h
    cases us with
    | nil => cases h
    | cons u us =>
      simp only [zeroRep, Bool.and_eq_true] at h
      refine ⟨u, us, rfl, ?_, zeroCell_rep (β := fun _ => .nilFunc) (H := []) h.1, ih h.2⟩
      have := h.1
      unfold zeroCell at this
      split at this <;> first | rfl | cases this
  | @nils sz vs xs hz ih =>
    intro us h
    cases us with
    | nil => cases h
    | cons u us =>
      simp only [zeroRep, Bool.and_eq_true] at h
      have hu : u = .slice none 0 0 := zeroCell_rep (w := w) (M := M) (β := fun _ => .nilFunc) (H := []) h.1
      subst hu
      exact ⟨_, us, rfl, rfl, ⟨none, 0, [], rfl, Nat.le_refl _, Nat.zero_le _, fun _ => rfl, rfl, Reads.nil _ _ _⟩, ih h.2⟩
  | @none sz vs xs hz ih =>
    intro us h
    cases us with
    | nil => cases h
    | cons u us =>
      simp only [zeroRep, Bool.and_eq_true] at h
      have hu : u = .slice none 0 0 := zeroCell_rep (w := w) (M := M) (β := fun _ => .nilFunc) (H := []) h.1
      subst hu
      exact ⟨_, us, rfl, rfl, rfl, ih h.2⟩
theorem q_build {t : Nat} {ps : List (Nat × Operand)} {vs : List V} {zs ds : List D} [ht : TStruct E.P t] [hz : TZero E.P t vs] (hzd : ZeroD vs zs) (hb : Build E.P S t zs ps ds) : Swift E S ⟨dst, .build t ps.toArray, ty, pos, af, gd⟩ (.d (.agg ds)) := Swift.mk fun β a w h => by
  obtain ⟨fs, hu, hfs⟩ := struct_parts ht
  obtain ⟨i, z, hi, hiz, h1, _⟩ := zero_parts hz
  obtain ⟨pl, h2, h3⟩ := run_places (P := E.P) fs.toList hfs
  obtain ⟨us, h4, h5⟩ := hb.rep h hu (places := pl.toArray) (fun f fd i hf hi => by simpa using h3 f fd i (by simpa using hf) hi) (zeroD_rep (w := w) (M := Mut E.C.M0 β S.H) hzd h1)
  refine ⟨.agg us.toArray, fun w' _ => ?_, us, rfl, h5⟩
  have hpl : (fs.mapM fun f => do pure (f.offset, ← sizeOf f.type) : Sem (Array (Nat × Nat))).run E.P w' = .ok pl.toArray w' := by
    rw [Array.mapM_eq_mapM_toList]
    simp only [Sem.run_map]
    refine (congrArg (fun r : Result (List (Nat × Nat)) => r.andThen fun a w' => Result.ok a.toArray w') (h2 w')).trans ?_
    rfl
  rw [Array.toArray_toList] at h4
  simp only [execOp, Sem.run_bind, Instr.build, zeroValue, typeInfo, hi, hiz, run_underlying hu, Sem.run_pure, Result.andThen_ok, program, Sem.run]
  simp only [hpl, Result.andThen_ok]
  have e : (ps.toArray.map fun x => (x.1, a.eval x.2)).toList = ps.map fun x => (x.1, a.eval x.2) := by simp
  rw [e, h4]
  rfl
end
end Go.Proofs.YtcblefmjacofgaaGreatDoor
namespace Go.Proofs.YtcblefmjacofgaaGreatDoor
open Go.RowKit
inductive Elems (S : Sd) (sz : Nat) : Nat → List (Nat × Operand) → List D → Prop
  | nil (i : Nat) : Elems S sz i [] []
  | cons {i : Nat} {x : Operand} {v : V} {d : D} {cs : List D} {ps : List (Nat × Operand)} {ds : List D} (hx : S.ev x = some v) (ho : okOp x = true) (hd : ToD S.H v d) (hc : CellsD d cs) (hm : cs.length = sz) (h : Elems S sz (i + 1) ps ds) : Elems S sz i ((i, x) :: ps) (d :: ds)
theorem Elems.rep {C : Ctx} {β : Nat → Value} {S : Sd} {a : Act} {w : World} (h : StB C β S a w) {sz i : Nat} {ps : List (Nat × Operand)} {ds : List D} (he : Elems S sz i ps ds) :
    ∃ us : List Value, ps.map (fun x => (x.1, a.eval x.2)) = (us.zipIdx i).map (fun x => (x.2, x.1)) ∧ us.length = ds.length ∧ (∀ u ∈ us, u.cells.size = sz) ∧ RepE w (Mut C.M0 β S.H) sz ds (us.flatMap fun v => v.cells.toList) := by
  induction he with
  | nil i => exact ⟨[], rfl, rfl, (fun u hu => by cases hu), rfl⟩
  | @cons i x v d cs ps ds hx ho hd hc hm _ ih =>
    obtain ⟨us, h1, h2, h3, h4⟩ := ih
    have h5 := hd.rep h (h.ev hx ho)
    have h6 := (hc.rep h5).length
    have h7 : (a.eval x).cells.size = sz := by simp at h6; omega
    refine ⟨a.eval x :: us, ?_, by simp [h2], fun u hu => ?_, a.eval x, _, by simp, h7, h5, h4⟩
    · simp only [List.map_cons, h1, List.zipIdx_cons]
    · rcases List.mem_cons.1 hu with rfl | hu
      · exact h7
      · exact h3 u hu
theorem StB.newRow {C : Ctx} {β : Nat → Value} {S : Sd} {a : Act} {w w' : World} (h : StB C β S a w) {n e sz : Nat} {sh : Bool} {xs : List D} (hn : S.fresh n = true) (g : Grows w w') {v : Value} {ys : List Value} (hv : ∀ b, v.ownBlock = some b → w.heap.size ≤ b) (hown : w'.ownsRow 0 e sz v xs.length ys)
    (hr : RepE w (Mut C.M0 β S.H) sz xs ys) : StB C (upd β n v) { S with H := (n, .row e sz sh xs 0) :: S.H } a w' :=
  h.newObj hn v g (fun b hb' => hv b (by rw [← hb_row hown]; exact hb')) _ fun k => ⟨ys, hown, RepE.keep k _ _ _ hr⟩
section
variable {E : Set} {Q : Exit → Sd → Prop} {S : Sd} {ops : Array Oper} {draw : Bool} {rest : Todo} {way : Way3} {ty : TypeId} {pos : String} {af : Array Edge} {gd : Option (Nat × Bool)}
theorem repV_own {w : World} {M : Nat → Nat → Prop} {β : Nat → Value} {H : List (Nat × Ob)} {n : Nat} {v : Value} {k : Nat} : RepV w M (upd β n v) H (.own n k) v := fun _ _ _ _ _ => (upd_same β n v).symm
theorem g_lit {d n t e sz len : Nat} {ps : List (Nat × Operand)} {xs : List D} [ht : TSlice E.P t e sz] (hp : Elems S sz 0 ps xs) (hlen : xs.length = len) (hsmall : len * sz ≤ 16777216) (hn : S.fresh n = true) :
    Grow E S ⟨some d, .buildSlice t len ps.toArray, ty, pos, af, gd⟩ { S with H := (n, .row e sz true xs 0) :: S.H } (.own n 0) := Grow.mk fun β a w h => by
  obtain ⟨bytes, ⟨i, z, hu, hi, hz, hs, hby, hzs, hpos⟩, _⟩ := slice_elem ht
  obtain ⟨us, h1, h2, h3, h4⟩ := hp.rep h
  have hfl : (us.flatMap fun v => v.cells.toList).length = len * sz := by rw [h4.length, hlen]
  have hown := owns_new w (us.flatMap fun v => v.cells.toList) e len sz 0 hfl (by unfold maxLen; have := Nat.le_mul_of_pos_right len hpos; omega) (Nat.zero_le _)
  have hst : ∀ w', w' = w.alloc (.cells (us.flatMap fun v => v.cells.toList).toArray e) → StB E.C (upd β n (.slice (some ⟨w.heap.size, 0, none⟩) len len)) { S with H := (n, .row e sz true xs 0) :: S.H } a w' := fun w' e' => by
    subst e'
    refine h.newRow hn (Grows.alloc w _) (fun b hb' => ?_) (by rw [hlen]; exact hown) h4
    simp only [Value.ownBlock, Option.some.injEq] at hb'
    omega
  refine ⟨.slice (some ⟨w.heap.size, 0, none⟩) len len, _, _, ?_, Grows.alloc w _, hst _ rfl, repV_own⟩
  have hparts : (ps.toArray.map fun x => (x.1, a.eval x.2)).toList = (us.zipIdx 0).map (fun x => (x.2, x.1)) := by simp [← h1]
  by_cases h0 : len = 0
  · subst h0
    have hus : us = [] := List.eq_nil_of_length_eq_zero (by rw [h2, hlen])
    subst hus
    simp only [List.zipIdx_nil, List.map_nil] at hparts
    have hps : ps = [] := by simpa using hparts
    subst hps
    have e0 : Array.range 0 = #[] := Array.eq_empty_of_size_eq_zero (by simp)
    simp [execOp, Instr.buildSlice, run_underlying hu, run_size hi, Instr.fill, newRow, e0]
  · have hne : ¬ len * i.size = 0 := by rw [hs]; exact Nat.mul_ne_zero h0 (by omega)
    have hf := Go.Great.fill_whole (s := sz) hpos us ((Array.range (len * sz)).map (z.cells[· % z.cells.size]!)) h3 (by simp; rw [h2, hlen])
    have hr := run_buildSlice (P := E.P) w t e len (ps.toArray.map fun x => (x.1, a.eval x.2)) _ i z hu hi hz (by rw [hs]; omega) hne (by rw [hs, hparts]; exact hf)
    simp only [execOp, Sem.run_bind, hr, Result.andThen_ok, Sem.run_pure]
structure GrowK (E : Set) (S : Sd) (o : Oper) (S' : Nat → Sd) (v : Nat → V) : Prop where
  out : ∀ β a w, StB E.C β S a w → ∃ x w' β' k, (execOp a.eval o).run E.P w = .ok (.value x) w' ∧ StB E.C β' (S' k) a w' ∧ RepV w' (Mut E.C.M0 β' (S' k).H) β' (S' k).H (v k) x
theorem tr_turnK {o : Oper} {d : Nat} {S' : Nat → Sd} {v : Nat → V} (hq : GrowK E S o S' v) (hdst : o.dst = some d) (hd : d < E.C.nt) (hg : S.gd ops o = some true) (hdf : isDefer o = false) (hw : isBar draw way = true) (h : ∀ k, TR E draw ops Q rest ((S' k).put d (v k))) : TR E draw ops Q (.step o way rest) S := fun a w hS => by
  have hS0 := hS
  have key : ∀ w1, Grows w w1 → ∀ K : Act → World → Prop, (∀ k a2 w2, St E.C ((S' k).put d (v k)) a2 w2 → K a2 w2) → o.wp E.P a w1 K (Qof E.C Q) := fun w1 g K hK => by
    obtain ⟨β, hB⟩ := hS.later g
    obtain ⟨x, w', β', k, h1, h2, h3⟩ := hq.out β a w1 hB
    refine wp_value h1 (hK k _ _ ?_)
    rw [hdst]
    exact ⟨β', h2.put hd h3⟩
  cases draw with
  | true =>
    dsimp only
    cases way with
    | pure => cases hw
    | quiet => cases hw
    | grow => cases hw
    | bar =>
      simp only [wpMix3]
      intro n
      rw [Sd.gd_sound hS0 hg, if_pos rfl]
      exact key n.w n.grows _ fun k a2 w2 hs2 => h k _ _ hs2
  | false => exact listIn_of_wp hS0 hg hdf fun K hK => key w (Grows.refl w) K fun k a2 w2 hs2 => hK _ _ (h k _ _ hs2)
theorem run_append_op {P : Program} {a : Act} {s x : Operand} {t : TypeId} {dst : Option Tmp} {w w' : World} {v : Value} (h : (Builtin.append_ #[t, t] ty #[a.eval s, a.eval x]).run P w = .ok v w') :
    (execOp a.eval ⟨dst, .call { callee := .builtin .append, args := #[s, x], argTypes := #[t, t] }, ty, pos, af, gd⟩).run P w = .ok (.value v) w' := by
  simp [execOp, resolve, invoke, builtin, h]
theorem t_append {d t e sz n k : Nat} {s x : Operand} {v : V} {xs ys : List D} [ht : TSlice E.P t e sz] (hs : S.ev s = some (.own n k)) (hos : okOp s = true) (hl : look n S.H = some (.row e sz true xs k)) (hx : S.ev x = some v) (hox : okOp x = true) (hy : ToD S.H v (.list sz ys)) (hlen : xs.length + ys.length ≤ 1000000000000) (hN : E.C.N.contains n = false) :
    GrowK E S ⟨some d, .call { callee := .builtin .append, args := #[s, x], argTypes := #[t, t] }, ty, pos, af, gd⟩ (fun k' => { S with H := (n, .row e sz true (xs ++ ys) k') :: S.H }) (fun k' => .own n k') := GrowK.mk fun β a w h => by
  obtain ⟨bytes, he, hby⟩ := slice_elem ht
  have h1 : a.eval s = β n := h.ev hs hos e sz true xs hl
  obtain ⟨olds, h2, h3⟩ := h.obs n _ hl
  obtain ⟨xa, xc, news, h4, h5, h6, h7, h8, h9⟩ := hy.rep h (h.ev hx hox)
  obtain ⟨v', w', h10, h11, h12⟩ := run_app (P := E.P) (ty := ty) w he h2 (xa := xa) (m := ys.length) (xc := xc) (news := news) h8.length (fun j u hu => by
    obtain ⟨b, o, e1, _, e2⟩ := h9 j u hu
    exact ⟨b, o, e1, e2⟩) h7 h5 h8.one hlen hby
  refine ⟨v', w', _, max (topE S.env) (topO S.H), run_append_op (by rw [h1, h4]; exact h10), h.append hl h2 h3 h8 h11 h12 rfl _ (Nat.le_refl _) hN, repV_own⟩
theorem g_append {d n t e sz sz' : Nat} {s x : Operand} {v : V} {ys : List D} [ht : TSlice E.P t e sz] (hs : S.ev s = some (.nils sz')) (hos : okOp s = true) (hx : S.ev x = some v) (hox : okOp x = true) (hy : ToD S.H v (.list sz ys)) (hlen : ys.length ≤ 1000000000000) (hn : S.fresh n = true) :
    Grow E S ⟨some d, .call { callee := .builtin .append, args := #[s, x], argTypes := #[t, t] }, ty, pos, af, gd⟩ { S with H := (n, .row e sz true ys 0) :: S.H } (.own n 0) := Grow.mk fun β a w h => by
  obtain ⟨bytes, he, hby⟩ := slice_elem ht
  have h1 : a.eval s = .slice none 0 0 := h.ev hs hos
  obtain ⟨xa, xc, news, h4, h5, h6, h7, h8, h9⟩ := hy.rep h (h.ev hx hox)
  obtain ⟨v', w', h10, h11, h12⟩ := run_app (P := E.P) (ty := ty) w he (World.ownsRow_nil w 0 e sz) (xa := xa) (m := ys.length) (xc := xc) (news := news) h8.length (fun j u hu => by
    obtain ⟨b, o, e1, _, e2⟩ := h9 j u hu
    exact ⟨b, o, e1, e2⟩) h7 h5 h8.one (by omega) hby
  rw [Nat.zero_add, List.nil_append] at h11
  have hg : Grows w w' ∧ ∀ b, v'.ownBlock = some b → w.heap.size ≤ b := by
    rcases h12 with ⟨h13, h14⟩ | ⟨h13, h14⟩
    · exact ⟨(Below.refl _ _).grown h14 (Nat.le_refl _) (fun k hk => by cases hk), fun b hb' => by rw [h13] at hb'; cases hb'⟩
    · exact ⟨(Below.refl _ _).grown h14 (Nat.le_refl _) (fun k hk => by cases hk), h13⟩
  exact ⟨v', w', upd β n v', run_append_op (by rw [h1, h4]; exact h10), hg.1, h.newRow hn hg.1 hg.2 h11 h8, repV_own⟩
theorem StB.nilRow {C : Ctx} {β : Nat → Value} {a : Act} {w : World} (h : StB C β S a w) {n e sz : Nat} (hn : S.fresh n = true) : StB C (upd β n (.slice none 0 0)) { S with H := (n, .row e sz true [] 0) :: S.H } a w :=
  h.newRow hn (Grows.refl w) (fun b hb' => by cases hb') (World.ownsRow_nil w 0 e sz) rfl
end
end Go.Proofs.YtcblefmjacofgaaGreatDoor
namespace Go.Proofs.YtcblefmjacofgaaGreatDoor
open Go.RowKit
section
variable {E : Set} {Q : Exit → Sd → Prop} {ops : Array Oper} {draw : Bool} {rest : Todo} {way : Way3} {ty : TypeId} {pos : String} {af : Array Edge} {gd : Option (Nat × Bool)} {dst : Option Tmp}
variable {env : List (Nat × V)} {H : List (Nat × Ob)} {gl : List (Nat × List D)} {d : Nat}
theorem s_p {v : V} {o : Oper} (hq : Swift E ⟨env, H, gl⟩ o v) (hdst : o.dst = some d) (hd : d < E.C.nt) (hg : Sd.gd ⟨env, H, gl⟩ ops o = some true) (hdf : isDefer o = false) (h : TR E draw ops Q rest ⟨(d, v) :: env, H, gl⟩) : TR E draw ops Q (.step o way rest) ⟨env, H, gl⟩ :=
  tr_still hq hdst hd hg hdf h
theorem s_q {v : V} {o : Oper} (hq : Quiet E ⟨env, H, gl⟩ o v) (hdst : o.dst = some d) (hd : d < E.C.nt) (hg : Sd.gd ⟨env, H, gl⟩ ops o = some true) (hdf : isDefer o = false) (hw : way.known = false) (h : TR E draw ops Q rest ⟨(d, v) :: env, H, gl⟩) : TR E draw ops Q (.step o way rest) ⟨env, H, gl⟩ :=
  tr_quiet hq hdst hd hg hdf hw h
theorem s_pass {o : Oper} (hdst : o.dst = some d) (hd : d < E.C.nt) (hg : Sd.gd ⟨env, H, gl⟩ ops o = some false) (h : TR E draw ops Q rest ⟨(d, .tup []) :: env, H, gl⟩) : TR E draw ops Q (.step o way rest) ⟨env, H, gl⟩ := tr_pass hdst hd hg h
theorem s_alloc (n : Nat) {t : Nat} {vs : List V} [ht : TZero E.P t vs] (hn : Sd.fresh ⟨env, H, gl⟩ n = true) (hs : saysL n vs = false) (hd : d < E.C.nt) (hg : Sd.gd ⟨env, H, gl⟩ ops ⟨some d, .alloc t, ty, pos, af, gd⟩ = some true) (hw : way.loud = true)
    (h : TR E draw ops Q rest ⟨(d, .ptr n 0) :: env, (n, .box vs) :: H, gl⟩) : TR E draw ops Q (.step ⟨some d, .alloc t, ty, pos, af, gd⟩ way rest) ⟨env, H, gl⟩ := tr_grow (g_alloc hn hs) rfl hd hg rfl hw h
theorem s_box (n : Nat) {t : Nat} {x : Operand} {v : V} {vs : List V} (hx : Sd.ev ⟨env, H, gl⟩ x = some v) (hox : okOp x = true) (hown : ownOk ⟨env, H, gl⟩ v = true) (hc : CellsV v vs) (hn : Sd.fresh ⟨env, H, gl⟩ n = true) (hs : saysL n vs = false) (hd : d < E.C.nt)
    (hg : Sd.gd ⟨env, H, gl⟩ ops ⟨some d, .box t x, ty, pos, af, gd⟩ = some true) (hw : way.loud = true)
    (h : TR E draw ops Q rest ⟨(d, .ptr n 0) :: env, (n, .box vs) :: H, gl⟩) : TR E draw ops Q (.step ⟨some d, .box t x, ty, pos, af, gd⟩ way rest) ⟨env, H, gl⟩ := tr_grow (g_box hx hox hown hc hn hs) rfl hd hg rfl hw h
theorem s_store {t n off m : Nat} {x y : Operand} {v : V} {vs cs cs' : List V} [ht : TSize E.P t m] (hx : Sd.ev ⟨env, H, gl⟩ x = some (.ptr n off)) (hox : okOp x = true) (hy : Sd.ev ⟨env, H, gl⟩ y = some v) (hoy : okOp y = true) (hown : ownOk ⟨env, H, gl⟩ v = true)
    (hl : look n H = some (.box cs)) (hc : CellsV v vs) (hm : vs.length = m) (hr : Repl cs off vs cs') (hg : Sd.gd ⟨env, H, gl⟩ ops ⟨none, .store t x y, ty, pos, af, gd⟩ = some true) (hw : isBar draw way = true)
    (h : TR E draw ops Q rest ⟨env, (n, .box cs') :: H, gl⟩) : TR E draw ops Q (.step ⟨none, .store t x y, ty, pos, af, gd⟩ way rest) ⟨env, H, gl⟩ := tr_turn (t_store hx hox hy hoy hown hl hc hm hr) rfl hg rfl hw h
theorem s_lit (n : Nat) {t e sz len : Nat} {ps : List (Nat × Operand)} {xs : List D} [ht : TSlice E.P t e sz] (hp : Elems ⟨env, H, gl⟩ sz 0 ps xs) (hlen : xs.length = len) (hsmall : len * sz ≤ 16777216) (hn : Sd.fresh ⟨env, H, gl⟩ n = true) (hd : d < E.C.nt)
    (hg : Sd.gd ⟨env, H, gl⟩ ops ⟨some d, .buildSlice t len ps.toArray, ty, pos, af, gd⟩ = some true) (hw : way.loud = true)
    (h : TR E draw ops Q rest ⟨(d, .own n 0) :: env, (n, .row e sz true xs 0) :: H, gl⟩) : TR E draw ops Q (.step ⟨some d, .buildSlice t len ps.toArray, ty, pos, af, gd⟩ way rest) ⟨env, H, gl⟩ := tr_grow (g_lit hp hlen hsmall hn) rfl hd hg rfl hw h
theorem s_append {t e sz n k : Nat} {s x : Operand} {v : V} {xs ys : List D} [ht : TSlice E.P t e sz] (hs : Sd.ev ⟨env, H, gl⟩ s = some (.own n k)) (hos : okOp s = true) (hl : look n H = some (.row e sz true xs k)) (hx : Sd.ev ⟨env, H, gl⟩ x = some v) (hox : okOp x = true) (hy : ToD H v (.list sz ys))
    (hlen : xs.length + ys.length ≤ 1000000000000) (hN : E.C.N.contains n = false) (hd : d < E.C.nt) (hg : Sd.gd ⟨env, H, gl⟩ ops ⟨some d, .call { callee := .builtin .append, args := #[s, x], argTypes := #[t, t] }, ty, pos, af, gd⟩ = some true) (hw : isBar draw way = true)
    (h : ∀ k', TR E draw ops Q rest ⟨(d, .own n k') :: env, (n, .row e sz true (xs ++ ys) k') :: H, gl⟩) : TR E draw ops Q (.step ⟨some d, .call { callee := .builtin .append, args := #[s, x], argTypes := #[t, t] }, ty, pos, af, gd⟩ way rest) ⟨env, H, gl⟩ :=
  tr_turnK (t_append hs hos hl hx hox hy hlen hN (d := d)) rfl hd hg rfl hw h
theorem s_append0 (n : Nat) {t e sz sz' : Nat} {s x : Operand} {v : V} {ys : List D} [ht : TSlice E.P t e sz] (hs : Sd.ev ⟨env, H, gl⟩ s = some (.nils sz')) (hos : okOp s = true) (hx : Sd.ev ⟨env, H, gl⟩ x = some v) (hox : okOp x = true) (hy : ToD H v (.list sz ys)) (hlen : ys.length ≤ 1000000000000) (hn : Sd.fresh ⟨env, H, gl⟩ n = true)
    (hd : d < E.C.nt) (hg : Sd.gd ⟨env, H, gl⟩ ops ⟨some d, .call { callee := .builtin .append, args := #[s, x], argTypes := #[t, t] }, ty, pos, af, gd⟩ = some true) (hw : way.loud = true)
    (h : TR E draw ops Q rest ⟨(d, .own n 0) :: env, (n, .row e sz true ys 0) :: H, gl⟩) : TR E draw ops Q (.step ⟨some d, .call { callee := .builtin .append, args := #[s, x], argTypes := #[t, t] }, ty, pos, af, gd⟩ way rest) ⟨env, H, gl⟩ :=
  tr_grow (g_append hs hos hx hox hy hlen hn (d := d)) rfl hd hg rfl hw h
theorem s_call {f : Nat} {xs : List Operand} {ats : Array TypeId} {vs vs' : List V} {R : V → Prop} [hf : TFun E.P f] (hx : Evs ⟨env, H, gl⟩ xs vs) (ha : Args H vs vs') (hc : FnD E.P gl f vs' R) (hd : d < E.C.nt)
    (hg : Sd.gd ⟨env, H, gl⟩ ops ⟨some d, .call { callee := .value (.func f), args := xs.toArray, argTypes := ats }, ty, pos, af, gd⟩ = some true) (hw : way.loud = true)
    (h : ∀ v, R v → TR E draw ops Q rest ⟨(d, v) :: env, H, gl⟩) : TR E draw ops Q (.step ⟨some d, .call { callee := .value (.func f), args := xs.toArray, argTypes := ats }, ty, pos, af, gd⟩ way rest) ⟨env, H, gl⟩ :=
  tr_call hx ha hc hd rfl hg hw h
theorem s_cmp {op : BinOp} {xt yt : TypeId} {x y : Operand} {k : IntKind} {p q : Int} (hop : isCmp op = true) (hx : Sd.ev ⟨env, H, gl⟩ x = some (.d (.int k p))) (hy : Sd.ev ⟨env, H, gl⟩ y = some (.d (.int k q))) (hox : okOp x = true) (hoy : okOp y = true) (hd : d < E.C.nt)
    (hg : Sd.gd ⟨env, H, gl⟩ ops ⟨some d, .binOp op xt x y yt, ty, pos, af, gd⟩ = some true) (h1 : cmp op p q → TR E draw ops Q rest ⟨(d, .d (.bool true)) :: env, H, gl⟩) (h2 : ¬ cmp op p q → TR E draw ops Q rest ⟨(d, .d (.bool false)) :: env, H, gl⟩) :
    TR E draw ops Q (.step ⟨some d, .binOp op xt x y yt, ty, pos, af, gd⟩ way rest) ⟨env, H, gl⟩ := tr_cmp hop hx hy hox hoy hd rfl hg h1 h2
theorem s_str_eq {xt yt : TypeId} {x y : Operand} {s t : ByteArray} (hx : Sd.ev ⟨env, H, gl⟩ x = some (.d (.str s))) (hy : Sd.ev ⟨env, H, gl⟩ y = some (.d (.str t))) (hox : okOp x = true) (hoy : okOp y = true) (hd : d < E.C.nt)
    (hg : Sd.gd ⟨env, H, gl⟩ ops ⟨some d, .binOp .eql xt x y yt, ty, pos, af, gd⟩ = some true) (h1 : s = t → TR E draw ops Q rest ⟨(d, .d (.bool true)) :: env, H, gl⟩) (h2 : ¬ s = t → TR E draw ops Q rest ⟨(d, .d (.bool false)) :: env, H, gl⟩) :
    TR E draw ops Q (.step ⟨some d, .binOp .eql xt x y yt, ty, pos, af, gd⟩ way rest) ⟨env, H, gl⟩ := by
  by_cases h : s = t
  · exact tr_still (q_str_eql hx hy hox hoy (b := true) (propext ⟨fun _ => h, fun _ => rfl⟩)) rfl hd hg rfl (h1 h)
  · exact tr_still (q_str_eql hx hy hox hoy (b := false) (propext ⟨(fun h' => by cases h'), fun h' => absurd h' h⟩)) rfl hd hg rfl (h2 h)
theorem q_c_bool {S : Sd} {b : Bool} : Swift E S ⟨dst, .assign (.const (.bool b)), ty, pos, af, gd⟩ (.d (.bool b)) := q_assign rfl rfl
theorem q_c_int {S : Sd} {k : IntKind} {n : Int} : Swift E S ⟨dst, .assign (.const (.int k n)), ty, pos, af, gd⟩ (.d (.int k n)) := q_assign rfl rfl
theorem q_c_str {S : Sd} {s : ByteArray} : Swift E S ⟨dst, .assign (.const (.string s)), ty, pos, af, gd⟩ (.d (.str s)) := q_assign rfl rfl
theorem q_m_bool {S : Sd} {b : Bool} : Swift E S ⟨dst, .move (.const (.bool b)), ty, pos, af, gd⟩ (.d (.bool b)) := q_move rfl rfl
theorem q_m_int {S : Sd} {k : IntKind} {n : Int} : Swift E S ⟨dst, .move (.const (.int k n)), ty, pos, af, gd⟩ (.d (.int k n)) := q_move rfl rfl
theorem q_m_str {S : Sd} {s : ByteArray} : Swift E S ⟨dst, .move (.const (.string s)), ty, pos, af, gd⟩ (.d (.str s)) := q_move rfl rfl
theorem q_p_t {S : Sd} {c y : Operand} {b : Bool} (hc : S.ev c = some (.d (.bool true))) (hk : okOp c = true) : Swift E S ⟨dst, .pick c (.const (.bool b)) y, ty, pos, af, gd⟩ (.d (.bool b)) := q_pick_t hc hk rfl rfl
theorem q_p_f {S : Sd} {c x : Operand} {b : Bool} (hc : S.ev c = some (.d (.bool false))) (hk : okOp c = true) : Swift E S ⟨dst, .pick c x (.const (.bool b)), ty, pos, af, gd⟩ (.d (.bool b)) := q_pick_f hc hk rfl rfl
theorem q_not_t {S : Sd} {xt : TypeId} {x : Operand} (hx : S.ev x = some (.d (.bool true))) (hox : okOp x = true) : Swift E S ⟨dst, .unOp .not xt x, ty, pos, af, gd⟩ (.d (.bool false)) := q_not hx hox
theorem q_not_f {S : Sd} {xt : TypeId} {x : Operand} (hx : S.ev x = some (.d (.bool false))) (hox : okOp x = true) : Swift E S ⟨dst, .unOp .not xt x, ty, pos, af, gd⟩ (.d (.bool true)) := q_not hx hox
theorem s_bt {rest : Todo} (h : TR E draw ops Q rest ⟨(d, .d (.bool true)) :: env, H, gl⟩) : TR E draw ops Q rest ⟨(d, .d (.bool true)) :: env, H, gl⟩ := h
theorem s_bf {rest : Todo} (h : TR E draw ops Q rest ⟨(d, .d (.bool false)) :: env, H, gl⟩) : TR E draw ops Q rest ⟨(d, .d (.bool false)) :: env, H, gl⟩ := h
theorem s_bv {rest : Todo} {b : Bool} (h1 : b = true → TR E draw ops Q rest ⟨(d, .d (.bool true)) :: env, H, gl⟩) (h2 : b = false → TR E draw ops Q rest ⟨(d, .d (.bool false)) :: env, H, gl⟩) : TR E draw ops Q rest ⟨(d, .d (.bool b)) :: env, H, gl⟩ := by
  cases b
  · exact h2 rfl
  · exact h1 rfl
theorem s_str_ne {xt yt : TypeId} {x y : Operand} {s t : ByteArray} (hx : Sd.ev ⟨env, H, gl⟩ x = some (.d (.str s))) (hy : Sd.ev ⟨env, H, gl⟩ y = some (.d (.str t))) (hox : okOp x = true) (hoy : okOp y = true) (hd : d < E.C.nt)
    (hg : Sd.gd ⟨env, H, gl⟩ ops ⟨some d, .binOp .neq xt x y yt, ty, pos, af, gd⟩ = some true) (h1 : s = t → TR E draw ops Q rest ⟨(d, .d (.bool false)) :: env, H, gl⟩) (h2 : ¬ s = t → TR E draw ops Q rest ⟨(d, .d (.bool true)) :: env, H, gl⟩) :
    TR E draw ops Q (.step ⟨some d, .binOp .neq xt x y yt, ty, pos, af, gd⟩ way rest) ⟨env, H, gl⟩ := by
  by_cases h : s = t
  · exact tr_still (q_str_neq hx hy hox hoy (b := false) (propext ⟨(fun h' => by cases h'), fun h' => absurd h h'⟩)) rfl hd hg rfl (h1 h)
  · exact tr_still (q_str_neq hx hy hox hoy (b := true) (propext ⟨fun _ => h, fun _ => rfl⟩)) rfl hd hg rfl (h2 h)
theorem get_map {α : Type} {l : List α} {f : α → D} {k : Nat} (h : k < l.length) : (l.map f)[k]? = some (f l[k]) := by simp [h]
theorem get_list {α : Type} {l : List α} {k : Nat} (h : k < l.length) : l[k]? = some l[k] := by simp [h]
theorem end_ret {P : Program} {S : Sd} {rs : List ResultVar} {R : V → Prop} {vs : List V} (h : Res P S rs vs) (hr : R (oneOf vs)) : Ends P rs R .ret S := ⟨.inl rfl, vs, h, hr⟩
theorem end_norm {P : Program} {S : Sd} {rs : List ResultVar} {R : V → Prop} {vs : List V} (h : Res P S rs vs) (hr : R (oneOf vs)) : Ends P rs R .normal S := ⟨.inr rfl, vs, h, hr⟩
theorem tc_cond_t {S : Sd} {c : Operand} {x y : Code} (hc : S.ev c = some (.d (.bool true))) (ho : okOp c = true) (ht : TC E x Q S) : TC E (.cond c x y) Q S := tc_cond hc ho (fun _ => ht) (fun h => by cases h)
theorem tc_cond_f {S : Sd} {c : Operand} {x y : Code} (hc : S.ev c = some (.d (.bool false))) (ho : okOp c = true) (ht : TC E y Q S) : TC E (.cond c x y) Q S := tc_cond hc ho (fun h => by cases h) (fun _ => ht)
end
end Go.Proofs.YtcblefmjacofgaaGreatDoor
namespace Go.Proofs.YtcblefmjacofgaaGreatDoor
open Go.RowKit
def leavesF (P : Program) (rec : TypeId → Option (List Nat)) : Nat → List Field → Option (List Nat)
  | _, [] => some []
  | off, f :: fs => if f.name == "_" || f.offset != off then none else match rec f.type, P.info? f.type with
    | some l, some i => if i.size == l.length then (leavesF P rec (off + l.length) fs).map (l ++ ·) else none
    | _, _ => none
def leaves (P : Program) : Nat → TypeId → Option (List Nat)
  | 0, _ => none
  | d + 1, t => match P.underlying t with
    | some .bool => some [0]
    | some (.int _) => some [1]
    | some .string => some [2]
    | some (.struct fs) => if P.stoodInHeld t then none else leavesF P (leaves P d) 0 fs.toList
    | _ => none
def eqOk (P : Program) (t : Nat) (ls : List Nat) : Bool := (match P.underlying t with | some (.struct _) => true | _ => false) && leaves P 8 t == some ls && !P.eqGuardType P.depth t
class TEq (P : Program) (t : Nat) (ls : outParam (List Nat)) : Prop where
  ok : eqOk P t ls = true
inductive EqC : List Nat → List D → List D → Prop → Prop
  | nil : EqC [] [] [] True
  | bool {a b : Bool} {ls : List Nat} {ds es : List D} {p : Prop} (h : EqC ls ds es p) : EqC (0 :: ls) (.bool a :: ds) (.bool b :: es) (a = b ∧ p)
  | int {k : IntKind} {a b : Int} {ls : List Nat} {ds es : List D} {p : Prop} (h : EqC ls ds es p) : EqC (1 :: ls) (.int k a :: ds) (.int k b :: es) (a = b ∧ p)
  | str {a b : ByteArray} {ls : List Nat} {ds es : List D} {p : Prop} (h : EqC ls ds es p) : EqC (2 :: ls) (.str a :: ds) (.str b :: es) (a = b ∧ p)
def leafV : D → Value
  | .int k n => .int k n
  | .bool b => .bool b
  | .str s => .string s
  | _ => undef
theorem EqC.rep {ls : List Nat} {ds es : List D} {p : Prop} (h : EqC ls ds es p) {w : World} {M : Nat → Nat → Prop} : (∀ us, RepA w M ds us → us = ds.map leafV) ∧ (∀ us, RepA w M es us → us = es.map leafV) := by
  induction h with
  | nil => exact ⟨fun us h => h, fun us h => h⟩
  | bool _ ih => exact ⟨fun us h => by obtain ⟨v, r, rfl, _, h2, h3⟩ := h; simp only [RepD] at h2; subst h2; rw [ih.1 r h3]; rfl, fun us h => by obtain ⟨v, r, rfl, _, h2, h3⟩ := h; simp only [RepD] at h2; subst h2; rw [ih.2 r h3]; rfl⟩
  | int _ ih => exact ⟨fun us h => by obtain ⟨v, r, rfl, _, h2, h3⟩ := h; simp only [RepD] at h2; subst h2; rw [ih.1 r h3]; rfl, fun us h => by obtain ⟨v, r, rfl, _, h2, h3⟩ := h; simp only [RepD] at h2; subst h2; rw [ih.2 r h3]; rfl⟩
  | str _ ih => exact ⟨fun us h => by obtain ⟨v, r, rfl, _, h2, h3⟩ := h; simp only [RepD] at h2; subst h2; rw [ih.1 r h3]; rfl, fun us h => by obtain ⟨v, r, rfl, _, h2, h3⟩ := h; simp only [RepD] at h2; subst h2; rw [ih.2 r h3]; rfl⟩
theorem EqC.length {ls : List Nat} {ds es : List D} {p : Prop} (h : EqC ls ds es p) : ds.length = ls.length ∧ es.length = ls.length := by
  induction h with
  | nil => exact ⟨rfl, rfl⟩
  | bool _ ih => simp [ih.1, ih.2]
  | int _ ih => simp [ih.1, ih.2]
  | str _ ih => simp [ih.1, ih.2]
theorem EqC.inv0 {ds es : List D} {p : Prop} (h : EqC [0] ds es p) : ∃ a b, ds = [.bool a] ∧ es = [.bool b] ∧ p = (a = b ∧ True) := by
  cases h with | bool h => cases h; exact ⟨_, _, rfl, rfl, rfl⟩
theorem EqC.inv1 {ds es : List D} {p : Prop} (h : EqC [1] ds es p) : ∃ k a b, ds = [.int k a] ∧ es = [.int k b] ∧ p = (a = b ∧ True) := by
  cases h with | int h => cases h; exact ⟨_, _, _, rfl, rfl, rfl⟩
theorem EqC.inv2 {ds es : List D} {p : Prop} (h : EqC [2] ds es p) : ∃ a b, ds = [.str a] ∧ es = [.str b] ∧ p = (a = b ∧ True) := by
  cases h with | str h => cases h; exact ⟨_, _, rfl, rfl, rfl⟩
theorem EqC.split : ∀ (l : List Nat) {l' : List Nat} {ds es : List D} {p : Prop}, EqC (l ++ l') ds es p → ∃ d1 d2 e1 e2 p1 p2, ds = d1 ++ d2 ∧ es = e1 ++ e2 ∧ EqC l d1 e1 p1 ∧ EqC l' d2 e2 p2 ∧ p = (p1 ∧ p2)
  | [], l', ds, es, p, h => ⟨[], ds, [], es, True, p, rfl, rfl, .nil, h, by simp⟩
  | x :: l, l', ds, es, p, h => by
    generalize hl : x :: l ++ l' = L at h
    cases h with
    | nil => cases hl
    | bool h =>
      cases hl
      obtain ⟨d1, d2, e1, e2, p1, p2, rfl, rfl, h1, h2, rfl⟩ := EqC.split l h
      exact ⟨_ :: d1, d2, _ :: e1, e2, _, p2, rfl, rfl, .bool h1, h2, by simp [and_assoc]⟩
    | int h =>
      cases hl
      obtain ⟨d1, d2, e1, e2, p1, p2, rfl, rfl, h1, h2, rfl⟩ := EqC.split l h
      exact ⟨_ :: d1, d2, _ :: e1, e2, _, p2, rfl, rfl, .int h1, h2, by simp [and_assoc]⟩
    | str h =>
      cases hl
      obtain ⟨d1, d2, e1, e2, p1, p2, rfl, rfl, h1, h2, rfl⟩ := EqC.split l h
      exact ⟨_ :: d1, d2, _ :: e1, e2, _, p2, rfl, rfl, .str h1, h2, by simp [and_assoc]⟩
section
variable {P : Program}
theorem part_cell {t : TypeId} {d : TypeDesc} (hu : P.underlying t = some d) (h1 : ∀ fs, d ≠ .struct fs) (h2 : ∀ n e, d ≠ .array n e) {xs : List Value} {off : Nat} {v : Value} (hv : xs[off]? = some v) (w : World) : (part t xs.toArray off).run P w = .ok v w := by
  simp [part, isAgg_no hu h1 h2, hv]
theorem part_agg {t : TypeId} {fs : Array Field} (hu : P.underlying t = some (.struct fs)) {i : TypeInfo} (hi : P.info? t = some i) {pre us post : List Value} {off : Nat} (ho : pre.length = off) (hn : us.length = i.size) (w : World) :
    (part t (pre ++ us ++ post).toArray off).run P w = .ok (.agg us.toArray) w := by
  have he : ((pre ++ us ++ post).toArray.extract off (off + i.size)) = us.toArray := by
    simp [List.extract_eq_take_drop, ← ho, hn]
  simp only [part, Sem.run_bind, isAgg_yes hu (.inl ⟨fs, rfl⟩), Result.andThen_ok, if_true, run_size hi, Sem.run_pure, he]
theorem leaves_eq : ∀ (d D : Nat) (t : TypeId) (ls : List Nat), d ≤ D → leaves P d t = some ls → ∀ (i : TypeInfo), P.info? t = some i → i.size = ls.length → ∀ (ds es : List Go.Proofs.YtcblefmjacofgaaGreatDoor.D) (p : Prop), EqC ls ds es p → ∀ (pre post pre' post' : List Value) (off : Nat), pre.length = off → pre'.length = off →
    ∃ a c b, (∀ w, (part t (pre ++ ds.map leafV ++ post).toArray off).run P w = .ok a w) ∧ (∀ w, (part t (pre' ++ es.map leafV ++ post').toArray off).run P w = .ok c w) ∧ (∀ w, (Op.equalIn D t a c).run P w = .ok b w) ∧ (b = true) = p ∧ ((∃ fs, P.underlying t = some (.struct fs)) → a = .agg (ds.map leafV).toArray ∧ c = .agg (es.map leafV).toArray) := by
  intro d
  induction d with
  | zero => intro D t ls _ h; simp [leaves] at h
  | succ d ih =>
    intro D t ls hD h i hi hn ds es p hE pre post pre' post' off ho ho'
    obtain ⟨D, rfl⟩ : ∃ D', D = D' + 1 := ⟨D - 1, by omega⟩
    obtain ⟨hl1, hl2⟩ := hE.length
    have get : ∀ (pre post : List Value) (v : Value) (l : List Value), pre.length = off → l = [v] → (pre ++ l ++ post)[off]? = some v := fun pre post v l h1 h2 => by subst h1; subst h2; simp
    unfold leaves at h
    split at h
    · rename_i hu
      cases h
      obtain ⟨x, y, rfl, rfl, rfl⟩ := hE.inv0
      refine ⟨_, _, x == y, fun w => part_cell hu (by simp) (by simp) (get _ _ (.bool x) _ ho rfl) w, fun w => part_cell hu (by simp) (by simp) (get _ _ (.bool y) _ ho' rfl) w, fun w => run_equalIn_bool' w D t x y hu, ?_, fun ⟨fs, hf⟩ => ?_⟩
      · simp
      · rw [hu] at hf; cases hf
    · rename_i k hu
      cases h
      obtain ⟨k', x, y, rfl, rfl, rfl⟩ := hE.inv1
      refine ⟨_, _, x == y, fun w => part_cell hu (by simp) (by simp) (get _ _ (.int k' x) _ ho rfl) w, fun w => part_cell hu (by simp) (by simp) (get _ _ (.int k' y) _ ho' rfl) w, fun w => run_equalIn_int w D t k' k x y hu, ?_, fun ⟨fs, hf⟩ => ?_⟩
      · simp
      · rw [hu] at hf; cases hf
    · rename_i hu
      cases h
      obtain ⟨x, y, rfl, rfl, rfl⟩ := hE.inv2
      refine ⟨_, _, x.toList == y.toList, fun w => part_cell hu (by simp) (by simp) (get _ _ (.string x) _ ho rfl) w, fun w => part_cell hu (by simp) (by simp) (get _ _ (.string y) _ ho' rfl) w, fun w => run_equalIn_string w D t x y hu, ?_, fun ⟨fs, hf⟩ => ?_⟩
      · by_cases h : x = y
        · rw [bytes_beq x y (b := true) (propext ⟨fun _ => h, fun _ => rfl⟩)]; simp [h]
        · rw [bytes_beq x y (b := false) (propext ⟨(fun h' => by cases h'), fun h' => absurd h' h⟩)]; simp [h]
      · rw [hu] at hf; cases hf
    · rename_i fs hu
      split at h
      · cases h
      · rename_i hst
        have hst : P.stoodInHeld t = false := by simpa using hst
        have hfo : P.fieldsOf t = fs := by unfold Program.fieldsOf; rw [hu]
        have fields : ∀ (fl : List Field) (off : Nat) (ls : List Nat), leavesF P (leaves P d) off fl = some ls → ∀ (ds es : List Go.Proofs.YtcblefmjacofgaaGreatDoor.D) (p : Prop), EqC ls ds es p → ∀ (pre pre' : List Value), pre.length = off → pre'.length = off →
            ∃ b, (∀ w, (Op.eqFields D (pre ++ ds.map leafV).toArray (pre' ++ es.map leafV).toArray fl).run P w = .ok b w) ∧ (b = true) = p := by
          intro fl
          induction fl with
          | nil =>
            intro off ls h ds es p hE pre pre' _ _
            simp only [leavesF, Option.some.injEq] at h
            subst h
            cases hE
            exact ⟨true, fun w => rfl, by simp⟩
          | cons f fl ih2 =>
            intro off ls h ds es p hE pre pre' ho ho'
            simp only [leavesF] at h
            split at h
            · cases h
            · rename_i hf
              simp only [Bool.or_eq_true, beq_iff_eq, bne_iff_ne, ne_eq, not_or, Decidable.not_not] at hf
              split at h
              · rename_i l i' hl hi'
                split at h
                · rename_i hsz
                  simp only [beq_iff_eq] at hsz
                  obtain ⟨ls', h', rfl⟩ := Option.map_eq_some_iff.1 h
                  obtain ⟨d1, d2, e1, e2, p1, p2, rfl, rfl, h1, h2, rfl⟩ := hE.split l
                  obtain ⟨q1, q2⟩ := h1.length
                  obtain ⟨a, c, b, k1, k2, k3, k4, _⟩ := ih D f.type l (by omega) hl i' hi' hsz d1 e1 p1 h1 pre (d2.map leafV) pre' (e2.map leafV) off ho ho'
                  obtain ⟨b2, k5, k6⟩ := ih2 (off + l.length) ls' h' d2 e2 p2 h2 (pre ++ d1.map leafV) (pre' ++ e1.map leafV) (by simp; omega) (by simp; omega)
                  refine ⟨b && b2, fun w => ?_, ?_⟩
                  · have e1' : (pre ++ (d1 ++ d2).map leafV) = pre ++ d1.map leafV ++ d2.map leafV := by simp
                    have e2' : (pre' ++ (e1 ++ e2).map leafV) = pre' ++ e1.map leafV ++ e2.map leafV := by simp
                    rw [e1', e2']
                    simp only [Op.eqFields, hf.1, ne_eq, not_false_eq_true, if_true, hf.2, Sem.run_bind, k1, k2, k3, Result.andThen_ok]
                    cases b with
                    | false => rfl
                    | true => simp only [Bool.not_true, Bool.false_eq_true, if_false, Bool.true_and]; exact k5 w
                  · rw [← k4, ← k6]
                    simp
                · cases h
              · cases h
        obtain ⟨b, k1, k2⟩ := fields fs.toList 0 ls h ds es p hE [] [] rfl rfl
        refine ⟨.agg (ds.map leafV).toArray, .agg (es.map leafV).toArray, b, fun w => part_agg hu hi ho (by simp; omega) w, fun w => part_agg hu hi ho' (by simp; omega) w, fun w => ?_, k2, fun _ => ⟨rfl, rfl⟩⟩
        rw [run_equalIn_struct w D t _ _ (by rw [hfo]; exact hu) hst, hfo]
        exact k1 w
    · cases h
theorem eq_agg {t : Nat} {ls : List Nat} (h : TEq P t ls) [hs : TAgg P t ls.length] {ds es : List D} {p : Prop} (hE : EqC ls ds es p) : ∃ b, (b = true) = p ∧ ∀ w, (Op.equalIn 10000 t (.agg (ds.map leafV).toArray) (.agg (es.map leafV).toArray)).run P w = .ok b w := by
  have h1 := h.ok
  unfold eqOk at h1
  simp only [Bool.and_eq_true, beq_iff_eq, Bool.not_eq_true'] at h1
  obtain ⟨⟨h2, h3⟩, h4⟩ := h1
  obtain ⟨d, i, hu, hd, hi, hsz⟩ := agg_parts hs
  obtain ⟨a, c, b, _, _, k3, k4, k5⟩ := leaves_eq 8 10000 t ls (by omega) h3 i hi hsz ds es p hE [] [] [] [] 0 rfl rfl
  obtain ⟨rfl, rfl⟩ := k5 (by
    split at h2
    · rename_i fs hu'; exact ⟨fs, hu'⟩
    · cases h2)
  exact ⟨b, k4, k3⟩
end
section
variable {E : Set} {Q : Exit → Sd → Prop} {ops : Array Oper} {draw : Bool} {rest : Todo} {way : Way3} {ty : TypeId} {pos : String} {af : Array Edge} {gd : Option (Nat × Bool)} {dst : Option Tmp}
variable {env : List (Nat × V)} {H : List (Nat × Ob)} {gl : List (Nat × List D)} {d : Nat}
theorem q_agg {S : Sd} {t : Nat} {yt : TypeId} {x y : Operand} {ls : List Nat} {ds es : List D} {p : Prop} [ht : TEq E.P t ls] [hs : TAgg E.P t ls.length] (hx : S.ev x = some (.d (.agg ds))) (hy : S.ev y = some (.d (.agg es))) (hox : okOp x = true) (hoy : okOp y = true) (hE : EqC ls ds es p) :
    ∃ b : Bool, (b = true) = p ∧ Swift E S ⟨dst, .binOp .eql t x y yt, ty, pos, af, gd⟩ (.d (.bool b)) ∧ Swift E S ⟨dst, .binOp .neq t x y yt, ty, pos, af, gd⟩ (.d (.bool !b)) := by
  obtain ⟨b, h1, h2⟩ := eq_agg (P := E.P) (t := t) ht hE
  have hm : E.P.eqGuardType E.P.depth t = false := by
    have := ht.ok
    unfold eqOk at this
    simp only [Bool.and_eq_true, Bool.not_eq_true'] at this
    exact this.2
  refine ⟨b, h1, Swift.mk fun β a w h => ⟨.bool b, fun w' _ => ?_, rfl⟩, Swift.mk fun β a w h => ⟨.bool !b, fun w' _ => ?_, rfl⟩⟩
  all_goals
    obtain ⟨us, e1, r1⟩ := h.ev hx hox
    obtain ⟨vs, e2, r2⟩ := h.ev hy hoy
    rw [(hE.rep (w := w) (M := Mut E.C.M0 β S.H)).1 us r1] at e1
    rw [(hE.rep (w := w) (M := Mut E.C.M0 β S.H)).2 vs r2] at e2
    simp only [execOp, e1, e2, Sem.run_bind, run_eqGuard_agg w' _ t x y _ _ hm, Result.andThen_ok, run_eql_struct, run_neq_struct, h2 w', Sem.run_pure]
theorem s_agg_eq {t : Nat} {yt : TypeId} {x y : Operand} {ls : List Nat} {ds es : List D} {p : Prop} [ht : TEq E.P t ls] [hs : TAgg E.P t ls.length] (hx : Sd.ev ⟨env, H, gl⟩ x = some (.d (.agg ds))) (hy : Sd.ev ⟨env, H, gl⟩ y = some (.d (.agg es))) (hox : okOp x = true) (hoy : okOp y = true) (hE : EqC ls ds es p) (hd : d < E.C.nt)
    (hg : Sd.gd ⟨env, H, gl⟩ ops ⟨some d, .binOp .eql t x y yt, ty, pos, af, gd⟩ = some true) (h1 : p → TR E draw ops Q rest ⟨(d, .d (.bool true)) :: env, H, gl⟩) (h2 : ¬ p → TR E draw ops Q rest ⟨(d, .d (.bool false)) :: env, H, gl⟩) :
    TR E draw ops Q (.step ⟨some d, .binOp .eql t x y yt, ty, pos, af, gd⟩ way rest) ⟨env, H, gl⟩ := by
  obtain ⟨b, hb, hq, _⟩ := q_agg (E := E) (S := ⟨env, H, gl⟩) (t := t) (dst := some d) (yt := yt) (ty := ty) (pos := pos) (af := af) (gd := gd) hx hy hox hoy hE
  cases b
  · exact tr_still hq rfl hd hg rfl (h2 (by rw [← hb]; simp))
  · exact tr_still hq rfl hd hg rfl (h1 (by rw [← hb]))
theorem s_agg_ne {t : Nat} {yt : TypeId} {x y : Operand} {ls : List Nat} {ds es : List D} {p : Prop} [ht : TEq E.P t ls] [hs : TAgg E.P t ls.length] (hx : Sd.ev ⟨env, H, gl⟩ x = some (.d (.agg ds))) (hy : Sd.ev ⟨env, H, gl⟩ y = some (.d (.agg es))) (hox : okOp x = true) (hoy : okOp y = true) (hE : EqC ls ds es p) (hd : d < E.C.nt)
    (hg : Sd.gd ⟨env, H, gl⟩ ops ⟨some d, .binOp .neq t x y yt, ty, pos, af, gd⟩ = some true) (h1 : p → TR E draw ops Q rest ⟨(d, .d (.bool false)) :: env, H, gl⟩) (h2 : ¬ p → TR E draw ops Q rest ⟨(d, .d (.bool true)) :: env, H, gl⟩) :
    TR E draw ops Q (.step ⟨some d, .binOp .neq t x y yt, ty, pos, af, gd⟩ way rest) ⟨env, H, gl⟩ := by
  obtain ⟨b, hb, _, hq⟩ := q_agg (E := E) (S := ⟨env, H, gl⟩) (t := t) (dst := some d) (yt := yt) (ty := ty) (pos := pos) (af := af) (gd := gd) hx hy hox hoy hE
  cases b
  · exact tr_still hq rfl hd hg rfl (h2 (by rw [← hb]; simp))
  · exact tr_still hq rfl hd hg rfl (h1 (by rw [← hb]))
inductive Sub {α : Type} (env : List (Nat × α)) : List (Nat × α) → Prop
  | nil : Sub env []
  | cons {t : Nat} {v : α} {r : List (Nat × α)} (h : look t env = some v) (k : Sub env r) : Sub env ((t, v) :: r)
theorem Sub.look {α : Type} {env l : List (Nat × α)} (h : Sub env l) {t : Nat} {v : α} (hl : Go.Proofs.YtcblefmjacofgaaGreatDoor.look t l = some v) : Go.Proofs.YtcblefmjacofgaaGreatDoor.look t env = some v := by
  induction h with
  | nil => cases hl
  | cons h1 _ ih =>
    rw [look_cons] at hl
    split at hl
    · rename_i e; subst e; cases hl; exact h1
    · exact ih hl
def Wk (C : Ctx) (S S' : Sd) : Prop := ∀ a w, St C S a w → St C S' a w
theorem wk {C : Ctx} {env' : List (Nat × V)} {H' : List (Nat × Ob)} (h1 : Sub env env') (h2 : Sub H H') (h3 : (C.N.all fun n => (look n H').isSome) = true) : Wk C ⟨env, H, gl⟩ ⟨env', H', gl⟩ := fun a w ⟨β, hB⟩ => ⟨β, hB.weak (fun t v h => h1.look h) (fun n ob h => h2.look h) (fun _ _ h => h) (fun n hn => List.all_eq_true.1 h3 n hn)⟩
theorem tc_fam {S : Sd} {c : Code} {ι : Type} (F : ι → Sd) (P : ι → Prop) (m : ι → Nat) (i0 : ι) (hp : P i0) (h0 : Wk E.C S (F i0)) (round : ∀ i, P i → TC E c (Exit.thenD (fun S' => ∃ j, P j ∧ m j < m i ∧ Wk E.C S' (F j)) Q) (F i)) : TC E (.loop c) Q S := by
  intro a w hS
  have key := tc_loop (E := E) (Q := Q) (c := c) (S := F i0) (fun S => ∃ i, P i ∧ S = F i) (fun S => leastOf fun k => ∃ i, P i ∧ S = F i ∧ m i = k) ⟨i0, hp, rfl⟩ (fun S ⟨i, hi, hSi⟩ => by
    obtain ⟨⟨i', hi', hS', hm'⟩, hmin⟩ := leastOf_spec (p := fun k => ∃ i, P i ∧ S = F i ∧ m i = k) ⟨_, i, hi, hSi, rfl⟩
    subst hS'
    refine tc_mono (round i' hi') fun e S' hq => ?_
    cases e
    case normal =>
      obtain ⟨j, hj, hlt, hw⟩ := hq
      refine ⟨F j, hw, ⟨j, hj, rfl⟩, ?_⟩
      have := (leastOf_spec (p := fun k => ∃ i, P i ∧ F j = F i ∧ m i = k) ⟨_, j, hj, rfl, rfl⟩).2 _ ⟨j, hj, rfl, rfl⟩
      rw [← hm']
      omega
    all_goals exact hq)
  exact key a w (h0 a w hS)
theorem tc_row {c : Code} {t e sz sz' : Nat} (hl : look t env = some (.nils sz')) (hn : Sd.fresh ⟨env, H, gl⟩ t = true) (h : TC E c Q ⟨(t, .own t 0) :: env, (t, .row e sz true [] 0) :: H, gl⟩) : TC E c Q ⟨env, H, gl⟩ := fun a w ⟨β, hB⟩ => by
  have h1 := hB.nilRow (e := e) (sz := sz) hn
  refine h a w ⟨_, { h1 with env := fun s v hs => ?_ }⟩
  dsimp only at hs
  rw [look_cons] at hs
  split at hs
  · rename_i e'
    subst e'
    cases hs
    obtain ⟨x, h2, h3⟩ := hB.env t _ hl
    exact ⟨x, h2, fun e' sz'' sh xs hl' => by rw [upd_same]; exact h3⟩
  · exact h1.env s v hs
end
end Go.Proofs.YtcblefmjacofgaaGreatDoor
namespace Go.Proofs.YtcblefmjacofgaaGreatDoor
open Go.RowKit
def dByte (b : UInt8) : D := .int .u8 b.toNat
def dBytes (l : List UInt8) : D := .list 1 (l.map dByte)
section
variable {E : Set} {S : Sd} {dst : Option Tmp} {ty : TypeId} {pos : String} {af : Array Edge} {gd : Option (Nat × Bool)}
theorem RepE.bytes {w : World} {M : Nat → Nat → Prop} : ∀ {l : List UInt8} {ys : List Value}, RepE w M 1 (l.map dByte) ys → ys = l.map fun b => Value.int .u8 (b.toNat : Int)
  | [], ys, h => h
  | b :: l, ys, h => by
    obtain ⟨v, r, h1, h2, h3, h4⟩ := h
    have hv : v = Value.int .u8 (b.toNat : Int) := h3
    subst hv
    have := RepE.bytes (l := l) h4
    subst this
    rw [h1]
    rfl
theorem q_conv_bytes {st dt e : TypeId} {x : Operand} {l : List UInt8} {xs : List D} [hs : TSlice E.P st e 1] [hb : TInt E.P e .u8] [hd : TStr E.P dt] (hx : S.ev x = some (.d (.list 1 xs))) (hox : okOp x = true) (hl : xs = l.map dByte) :
    Quiet E S ⟨dst, .convert st dt x, ty, pos, af, gd⟩ (.d (.str ⟨l.toArray⟩)) := Quiet.mk fun β a w h => by
  subst hl
  obtain ⟨_, hsl, _⟩ := slice_parts hs
  obtain ⟨ad, c, ys, h1, h2, h3, h4, h5, h6⟩ := h.ev hx hox
  have h7 := RepE.bytes h5
  subst h7
  refine ⟨.string ⟨l.toArray⟩, fun w' g => ?_, rfl⟩
  rw [List.length_map] at h1
  cases l with
  | nil =>
    cases ad with
    | none =>
      have := run_convert_bytes_nil (P := E.P) w' st e hsl (int_parts hb) 0 c dt (str_parts hd)
      simp only [execOp, h1, List.length_nil, Sem.run_bind, this]
      rfl
    | some p =>
      have := run_convert_bytes_string (P := E.P) w' st dt e (some p) 0 c hsl (int_parts hb) (str_parts hd)
      simp only [execOp, h1, List.length_nil, Sem.run_bind, this]
      simp [Conv.bytesToString, loadCells, loadCellsFrom]
      rfl
  | cons b l =>
    obtain ⟨q, o, e1, _, _⟩ := h6 0 _ rfl
    subst e1
    have := run_convert_bytes_arg (P := E.P) w' st e hsl (int_parts hb) q o (b :: l).length c ((b :: l).map fun b => (b.toNat : Int)) (by simp) (fun i hi => by
      have := reads_later h6 g (j := i) (v := .int .u8 (((b :: l)[i]).toNat : Int)) (by rw [List.getElem?_map, List.getElem?_eq_getElem hi]; rfl)
      rw [this, List.getD_eq_getElem?_getD, List.getElem?_map, List.getElem?_eq_getElem hi]
      rfl) dt (str_parts hd)
    have e2 : strOfNums ((b :: l).map fun b => (b.toNat : Int)) = ⟨(b :: l).toArray⟩ := by
      unfold strOfNums
      rw [List.map_map]
      congr 2
      conv => rhs; rw [← List.map_id (b :: l)]
      apply List.map_congr_left
      intro u _
      simp
    rw [e2] at this
    simp only [execOp, h1, Sem.run_bind, this]
    rfl
end
end Go.Proofs.YtcblefmjacofgaaGreatDoor
namespace Go.Proofs.YtcblefmjacofgaaGreatDoor
open Go.RowKit
inductive KeyK where
  | int (k : IntKind)
  | str
  | agg (ls : List Nat)
def keyOk (P : Program) (t : Nat) : KeyK → Bool
  | .int k => intOk P t k
  | .str => strOk P t
  | .agg ls => eqOk P t ls && aggOk P t ls.length
def mapOk (P : Program) (t k e : Nat) : Bool := match P.underlying t with
  | some (.map k' e') => k' == k && e' == e
  | _ => false
class TMap (P : Program) (t : Nat) (k e : outParam Nat) : Prop where
  ok : mapOk P t k e = true
class TKey (P : Program) (t : Nat) (kk : outParam KeyK) : Prop where
  ok : keyOk P t kk = true
def zeroD : List Value → List D → Bool
  | [], [] => true
  | u :: us, x :: xs => (match u, x with
    | .int k n, .int k' n' => decide (k = k') && decide (n = n')
    | .bool b, .bool b' => b == b'
    | .string t, .str t' => t.size == 0 && t'.size == 0
    | .slice none 0 0, .list _ [] => true
    | .pointer none, .raw (.pointer none) => true
    | .map none, .raw (.map none) => true
    | .nilFunc, .raw .nilFunc => true
    | _, _ => false) && zeroD us xs
  | _, _ => false
def zeroVOk (P : Program) (t : Nat) (v : V) : Bool := match P.info? t with
  | some i => (match i.zero with
    | some (.agg cs) => (match v with | .d (.agg ds) => zeroD cs.toList ds | _ => false)
    | some z => zeroCell z v
    | none => false)
  | none => false
class TZeroV (P : Program) (t : Nat) (v : outParam V) : Prop where
  ok : zeroVOk P t v = true
theorem zeroD_rep' {w : World} {M : Nat → Nat → Prop} : ∀ {us : List Value} {xs : List D}, zeroD us xs = true → RepA w M xs us
  | [], [], _ => rfl
  | u :: us, x :: xs, h => by
    simp only [zeroD, Bool.and_eq_true] at h
    obtain ⟨h1, h2⟩ := h
    refine ⟨u, us, rfl, ?_, ?_, zeroD_rep' h2⟩
    · split at h1 <;> first | rfl | cases h1
    · split at h1
      · simp only [Bool.and_eq_true, decide_eq_true_eq] at h1; obtain ⟨rfl, rfl⟩ := h1; rfl
      · simp only [beq_iff_eq] at h1; subst h1; rfl
      · simp only [Bool.and_eq_true, beq_iff_eq] at h1; rw [empty_str h1.1 h1.2]; rfl
      · exact ⟨none, 0, [], rfl, Nat.le_refl _, Nat.zero_le _, fun _ => rfl, rfl, Reads.nil _ _ _⟩
      · exact ⟨rfl, rfl⟩
      · exact ⟨rfl, rfl⟩
      · exact ⟨rfl, rfl⟩
      · cases h1
  | [], _ :: _, h => by simp [zeroD] at h
  | _ :: _, [], h => by simp [zeroD] at h
theorem zeroV_rep {P : Program} {t : Nat} {v : V} (h : TZeroV P t v) : ∃ i z, P.info? t = some i ∧ i.zero = some z ∧ ∀ {w : World} {M : Nat → Nat → Prop} {β : Nat → Value} {H : List (Nat × Ob)}, RepV w M β H v z := by
  have := h.ok
  unfold zeroVOk at this
  cases hi : P.info? t with
  | none => rw [hi] at this; cases this
  | some i =>
    rw [hi] at this
    dsimp only at this
    cases hz : i.zero with
    | none => rw [hz] at this; cases this
    | some z =>
      rw [hz] at this
      refine ⟨i, z, rfl, hz, ?_⟩
      intro w M β H
      cases z
      case agg cs =>
        dsimp only at this
        split at this
        · exact ⟨cs.toList, by simp, zeroD_rep' this⟩
        · cases this
      all_goals exact zeroCell_rep this
inductive Comp : KeyK → D → D → Prop
  | int (k : IntKind) (a b : Int) : Comp (.int k) (.int k a) (.int k b)
  | str (a b : ByteArray) : Comp .str (.str a) (.str b)
  | agg {ls : List Nat} {ds es : List D} {p : Prop} (h : EqC ls ds es p) : Comp (.agg ls) (.agg ds) (.agg es)
def keyV : D → Value
  | .agg ds => .agg (ds.map leafV).toArray
  | x => leafV x
theorem EqC.iff {ls : List Nat} {ds es : List D} {p : Prop} (h : EqC ls ds es p) : p ↔ es.map leafV = ds.map leafV := by
  induction h with
  | nil => simp
  | bool _ ih => simp [ih, leafV, eq_comm]
  | @int k a b ls ds es p _ ih => simp [ih, leafV, eq_comm]
  | str _ ih => simp [ih, leafV, eq_comm]
theorem EqC.inj {ls : List Nat} {ds es : List D} {p : Prop} (h : EqC ls ds es p) : es.map leafV = ds.map leafV ↔ es = ds := by
  induction h with
  | nil => simp
  | bool _ ih => simp [ih, leafV]
  | @int k a b ls ds es p _ ih => simp [ih, leafV]
  | str _ ih => simp [ih, leafV]
theorem Comp.rep {kk : KeyK} {x y : D} (h : Comp kk x y) {w : World} {M : Nat → Nat → Prop} : (∀ u, RepD w M x u → u = keyV x) ∧ (∀ u, RepD w M y u → u = keyV y) := by
  cases h with
  | int => exact ⟨fun u h => h, fun u h => h⟩
  | str => exact ⟨fun u h => h, fun u h => h⟩
  | agg h =>
    constructor
    · rintro u ⟨vs, rfl, h1⟩; rw [h.rep.1 vs h1]; rfl
    · rintro u ⟨vs, rfl, h1⟩; rw [h.rep.2 vs h1]; rfl
theorem Comp.inj {kk : KeyK} {x y : D} (h : Comp kk x y) : keyV y = keyV x ↔ y = x := by
  cases h with
  | int => simp [keyV, leafV]
  | str => simp [keyV, leafV]
  | agg h => simp only [keyV, Value.agg.injEq, D.agg.injEq]; rw [← h.inj]; exact ⟨fun e => by simpa using congrArg Array.toList e, fun e => by rw [e]⟩
section
variable {P : Program}
theorem ba_iff (a b : ByteArray) : (a == b) = true ↔ a = b := by
  cases a; cases b; show ByteArray.beq _ _ = true ↔ _; unfold ByteArray.beq; simp
theorem ba_self (a : ByteArray) : (a == a) = true := (ba_iff a a).2 rfl
def Found (u : Value) (es : List MapEntry) (i : Nat) (r : Option (Nat × Value)) : Prop :=
  (r = none ∧ ∀ e ∈ es, e.key ≠ u) ∨ ∃ j e, r = some (i + j, e.val) ∧ es[j]? = some e ∧ e.key = u ∧ ∀ j' e', j' < j → es[j']? = some e' → e'.key ≠ u
theorem Found.cons {u : Value} {e : MapEntry} {es : List MapEntry} {i : Nat} {r : Option (Nat × Value)} (h : Found u es (i + 1) r) (hne : e.key ≠ u) : Found u (e :: es) i r := by
  rcases h with ⟨rfl, h⟩ | ⟨j, e', rfl, h1, h2, h3⟩
  · exact .inl ⟨rfl, fun x hx => (List.mem_cons.1 hx).elim (fun e => e ▸ hne) (h x)⟩
  · refine .inr ⟨j + 1, e', (by rw [show i + 1 + j = i + (j + 1) by omega]), h1, h2, fun j' x hj hx => ?_⟩
    cases j' with
    | zero => simp at hx; subst hx; exact hne
    | succ j' => exact h3 j' x (by omega) (by simpa using hx)
theorem findNow_run {d : TypeDesc} {u : Value} : ∀ (es : List MapEntry) (i : Nat), (∀ e ∈ es, ∃ b, (b = true ↔ e.key = u) ∧ Instr.sameNow d u e.key = some b) → ∃ r, Instr.findNow d u es i = some r ∧ Found u es i r
  | [], i, _ => ⟨none, rfl, .inl ⟨rfl, fun e h => by cases h⟩⟩
  | e :: es, i, h => by
    obtain ⟨b, h1, h2⟩ := h e List.mem_cons_self
    cases b with
    | true => exact ⟨some (i, e.val), by simp [Instr.findNow, h2], .inr ⟨0, e, rfl, rfl, h1.1 rfl, fun j' e' hj => by omega⟩⟩
    | false =>
      obtain ⟨r, h3, h4⟩ := findNow_run es (i + 1) (fun x hx => h x (List.mem_cons_of_mem _ hx))
      exact ⟨r, by simp [Instr.findNow, h2, h3], h4.cons (fun e => by have := h1.2 e; cases this)⟩
theorem findAsking_run {t : Nat} {u : Value} (w : World) : ∀ (es : List MapEntry) (i : Nat), (∀ e ∈ es, ∃ b, (b = true ↔ e.key = u) ∧ ∀ w, (Op.equal t u e.key).run P w = .ok b w) → ∃ r, (Instr.findAsking t u es i).run P w = .ok r w ∧ Found u es i r
  | [], i, _ => ⟨none, rfl, .inl ⟨rfl, fun e h => by cases h⟩⟩
  | e :: es, i, h => by
    obtain ⟨b, h1, h2⟩ := h e List.mem_cons_self
    cases b with
    | true => exact ⟨some (i, e.val), by unfold Instr.findAsking; rw [Sem.run_bind, h2 w]; rfl, .inr ⟨0, e, rfl, rfl, h1.1 rfl, fun j' e' hj => by omega⟩⟩
    | false =>
      obtain ⟨r, h3, h4⟩ := findAsking_run w es (i + 1) (fun x hx => h x (List.mem_cons_of_mem _ hx))
      exact ⟨r, by unfold Instr.findAsking; rw [Sem.run_bind, h2 w]; exact h3, h4.cons (fun e => by have := h1.2 e; cases this)⟩
theorem findKey_run {t : Nat} {kk : KeyK} [hk : TKey P t kk] {x : D} (w : World) (es : List MapEntry) (h : ∀ e ∈ es, ∃ y, Comp kk x y ∧ e.key = keyV y) : ∃ r, (Instr.findKey t (keyV x) es).run P w = .ok r w ∧ Found (keyV x) es 0 r := by
  have hok := hk.ok
  cases kk with
  | int k =>
    have hd := int_parts (P := P) (t := t) ⟨hok⟩
    obtain ⟨r, h4, h5⟩ := findNow_run (d := .int k) (u := keyV x) es 0 fun e he => by
      obtain ⟨y, c, hy⟩ := h e he
      rw [hy, c.inj]
      cases c with
      | int k a b => exact ⟨a == b, by rw [beq_iff_eq, D.int.injEq]; exact ⟨fun e => ⟨rfl, e.symm⟩, fun e => e.2.symm⟩, by show (if k = k then some (a == b) else none) = _; rw [if_pos rfl]⟩
    exact ⟨r, by simp [Instr.findKey, run_underlying hd, h4], h5⟩
  | str =>
    have hd := str_parts (P := P) (t := t) ⟨hok⟩
    obtain ⟨r, h4, h5⟩ := findNow_run (d := .string) (u := keyV x) es 0 fun e he => by
      obtain ⟨y, c, hy⟩ := h e he
      rw [hy, c.inj]
      cases c with
      | str a b => exact ⟨a == b, by rw [ba_iff, D.str.injEq]; exact eq_comm, rfl⟩
    exact ⟨r, by simp [Instr.findKey, run_underlying hd, h4], h5⟩
  | agg ls =>
    simp only [keyOk, Bool.and_eq_true] at hok
    obtain ⟨d, i, hd, hd', _, _⟩ := agg_parts (P := P) (t := t) ⟨hok.2⟩
    obtain ⟨r, h4, h5⟩ := findAsking_run (P := P) (t := t) (u := keyV x) w es 0 fun e he => by
      obtain ⟨y, c, hy⟩ := h e he
      rw [hy, c.inj]
      cases c with
      | agg c =>
        obtain ⟨b, h1, h2⟩ := eq_agg (hs := ⟨hok.2⟩) ⟨hok.1⟩ c
        refine ⟨b, ?_, h2⟩
        rw [h1, c.iff, c.inj]
        simp
    refine ⟨r, ?_, h5⟩
    cases es with
    | nil =>
      have : r = none := by
        rcases h5 with h5 | ⟨j, e, _, h5, _⟩
        · exact h5.1
        · simp at h5
      subst this
      simp [Instr.findKey, run_underlying hd, Instr.findNow]
    | cons e es =>
      have hn : Instr.findNow d (keyV x) (e :: es) 0 = none := by
        have : Instr.sameNow d (keyV x) e.key = none := by rcases hd' with ⟨fs, rfl⟩ | ⟨n, el, rfl⟩ <;> rfl
        simp [Instr.findNow, this]
      simp [Instr.findKey, run_underlying hd, hn, h4]
theorem leaves_key : ∀ (d D : Nat) (t : TypeId) (ls : List Nat), d ≤ D → leaves P d t = some ls → ∀ (i : TypeInfo), P.info? t = some i → i.size = ls.length → ∀ (ds es : List Go.Proofs.YtcblefmjacofgaaGreatDoor.D) (p : Prop), EqC ls ds es p → ∀ (pre post : List Value) (off : Nat), pre.length = off →
    ∃ a, (∀ w, (part t (pre ++ ds.map leafV ++ post).toArray off).run P w = .ok a w) ∧ (∀ em w, (Instr.checkKey em D t a).run P w = .ok () w) ∧ ((∃ fs, P.underlying t = some (.struct fs)) → a = .agg (ds.map leafV).toArray) := by
  intro d
  induction d with
  | zero => intro D t ls _ h; simp [leaves] at h
  | succ d ih =>
    intro D t ls hD h i hi hn ds es p hE pre post off ho
    obtain ⟨D, rfl⟩ : ∃ D', D = D' + 1 := ⟨D - 1, by omega⟩
    obtain ⟨hl1, hl2⟩ := hE.length
    have get : ∀ (v : Value) (l : List Value), l = [v] → (pre ++ l ++ post)[off]? = some v := fun v l h2 => by subst ho; subst h2; simp
    unfold leaves at h
    split at h
    · rename_i hu
      cases h
      obtain ⟨x, y, rfl, rfl, rfl⟩ := hE.inv0
      exact ⟨_, fun w => part_cell hu (by simp) (by simp) (get (.bool x) _ rfl) w, fun em w => by simp [Instr.checkKey, run_underlying hu], fun ⟨fs, hf⟩ => by rw [hu] at hf; cases hf⟩
    · rename_i k hu
      cases h
      obtain ⟨k', x, y, rfl, rfl, rfl⟩ := hE.inv1
      exact ⟨_, fun w => part_cell hu (by simp) (by simp) (get (.int k' x) _ rfl) w, fun em w => by simp [Instr.checkKey, run_underlying hu], fun ⟨fs, hf⟩ => by rw [hu] at hf; cases hf⟩
    · rename_i hu
      cases h
      obtain ⟨x, y, rfl, rfl, rfl⟩ := hE.inv2
      exact ⟨_, fun w => part_cell hu (by simp) (by simp) (get (.string x) _ rfl) w, fun em w => by simp [Instr.checkKey, run_underlying hu], fun ⟨fs, hf⟩ => by rw [hu] at hf; cases hf⟩
    · rename_i fs hu
      split at h
      · cases h
      · rename_i hst
        have fields : ∀ (em : Bool) (fl : List Field) (off : Nat) (ls : List Nat), leavesF P (leaves P d) off fl = some ls → ∀ (ds es : List Go.Proofs.YtcblefmjacofgaaGreatDoor.D) (p : Prop), EqC ls ds es p → ∀ (pre : List Value), pre.length = off →
            ∀ w, (forIn fl PUnit.unit fun f _ => if f.name ≠ "_" then (do Instr.checkKey em D f.type (← part f.type (pre ++ ds.map leafV).toArray f.offset); pure (ForInStep.yield PUnit.unit)) else pure (ForInStep.yield PUnit.unit) : Sem PUnit).run P w = .ok PUnit.unit w := by
          intro em fl
          induction fl with
          | nil => intros; rfl
          | cons f fl ih2 =>
            intro off ls h ds es p hE pre ho w
            simp only [leavesF] at h
            split at h
            · cases h
            · rename_i hf
              simp only [Bool.or_eq_true, beq_iff_eq, bne_iff_ne, ne_eq, not_or, Decidable.not_not] at hf
              split at h
              · rename_i l i' hl hi'
                split at h
                · rename_i hsz
                  simp only [beq_iff_eq] at hsz
                  obtain ⟨ls', h', rfl⟩ := Option.map_eq_some_iff.1 h
                  obtain ⟨d1, d2, e1, e2, p1, p2, rfl, rfl, h1, h2, rfl⟩ := hE.split l
                  obtain ⟨q1, q2⟩ := h1.length
                  obtain ⟨a, k1, k2, _⟩ := ih D f.type l (by omega) hl i' hi' hsz d1 e1 p1 h1 pre (d2.map leafV) off ho
                  have k5 := ih2 (off + l.length) ls' h' d2 e2 p2 h2 (pre ++ d1.map leafV) (by simp; omega) w
                  have e1' : (pre ++ (d1 ++ d2).map leafV) = pre ++ d1.map leafV ++ d2.map leafV := by simp
                  rw [e1']
                  simp only [List.forIn_cons, hf.1, ne_eq, not_false_eq_true, if_true, hf.2, Sem.run_bind, k1, k2, Result.andThen_ok, Sem.run_pure]
                  exact k5
                · cases h
              · cases h
        refine ⟨.agg (ds.map leafV).toArray, fun w => part_agg hu hi ho (by simp; omega) w, fun em w => ?_, fun _ => rfl⟩
        have := fields em fs.toList 0 ls h ds es p hE [] rfl w
        simp only [List.nil_append] at this
        simp only [Instr.checkKey, Sem.run_bind, run_underlying hu, Result.andThen_ok, ← Array.forIn_toList]
        rw [this]
        rfl
    · cases h
theorem checkKey_int (n : Nat) {t : Nat} {k k' : IntKind} {a : Int} (hu : P.underlying t = some (.int k)) (em : Bool) (w : World) : (Instr.checkKey em (n + 1) t (.int k' a)).run P w = .ok () w := by simp [Instr.checkKey, run_underlying hu]
theorem checkKey_str (n : Nat) {t : Nat} {a : ByteArray} (hu : P.underlying t = some .string) (em : Bool) (w : World) : (Instr.checkKey em (n + 1) t (.string a)).run P w = .ok () w := by simp [Instr.checkKey, run_underlying hu]
theorem Comp.check {t : Nat} {kk : KeyK} [hk : TKey P t kk] {x y : D} (h : Comp kk x y) (em : Bool) (w : World) : (Instr.checkKey em 10000 t (keyV x)).run P w = .ok () w := by
  have hok := hk.ok
  cases h with
  | int k a b => exact checkKey_int 9999 (int_parts ⟨hok⟩) em w
  | str a b => exact checkKey_str 9999 (str_parts ⟨hok⟩) em w
  | @agg ls ds es p h =>
    simp only [keyOk, Bool.and_eq_true] at hok
    have h1 := hok.1
    unfold eqOk at h1
    simp only [Bool.and_eq_true, beq_iff_eq, Bool.not_eq_true'] at h1
    obtain ⟨⟨h2, h3⟩, h4⟩ := h1
    obtain ⟨d, i, hu, hd, hi, hsz⟩ := agg_parts (P := P) (t := t) ⟨hok.2⟩
    obtain ⟨a, _, k3, k5⟩ := leaves_key 8 10000 t ls (by omega) h3 i hi hsz ds es p h [] [] 0 rfl
    have e := k5 (by
      split at h2
      · rename_i fs hu'; exact ⟨fs, hu'⟩
      · cases h2)
    subst e
    exact k3 em w
theorem sameBits_leaf (n : Nat) {ls : List Nat} {ds es : List D} {p : Prop} (h : EqC ls ds es p) : (((ds.map leafV).zip (ds.map leafV)).all fun (x, y) => Instr.sameBits n x y) = true := by
  induction h with
  | nil => rfl
  | bool _ ih => simp only [List.map_cons, List.zip_cons_cons, List.all_cons, ih, Bool.and_true]; cases n <;> simp [leafV, Instr.sameBits]
  | int _ ih => simp only [List.map_cons, List.zip_cons_cons, List.all_cons, ih, Bool.and_true]; cases n <;> simp [leafV, Instr.sameBits]
  | str _ ih => simp only [List.map_cons, List.zip_cons_cons, List.all_cons, ih, Bool.and_true]; cases n <;> simp [leafV, Instr.sameBits, ba_self]
theorem Comp.stays {kk : KeyK} {x y : D} (h : Comp kk x y) (w : World) : (Instr.keyThatStays (keyV x) (keyV x)).run P w = .ok (keyV x) w := by
  have : Instr.sameBits 10000 (keyV x) (keyV x) = true := by
    cases h with
    | int k a b => simp [keyV, leafV, Instr.sameBits]
    | str a b => simp [keyV, leafV, Instr.sameBits, ba_self]
    | agg h =>
      have := sameBits_leaf 9999 h
      simp only [keyV, Instr.sameBits, BEq.rfl, Bool.true_and]
      exact this
  simp [Instr.keyThatStays, this]
theorem map_parts {t k e : Nat} (h : TMap P t k e) : P.underlying t = some (.map k e) := by
  have := h.ok
  unfold mapOk at this
  split at this
  · rename_i k' e' hu
    simp only [Bool.and_eq_true, beq_iff_eq] at this
    obtain ⟨rfl, rfl⟩ := this
    exact hu
  · cases this
end
end Go.Proofs.YtcblefmjacofgaaGreatDoor
namespace Go.Proofs.YtcblefmjacofgaaGreatDoor
open Go.RowKit
section
variable {P : Program}
theorem RepB.mem {w : World} {M : Nat → Nat → Prop} {ks : List D} {us : List Value} (h : RepB w M ks us) {u : Value} (hu : u ∈ us) : ∃ (i : Nat) (x : D), ks[i]? = some x ∧ us[i]? = some u ∧ RepD w M x u := by
  obtain ⟨i, hi, rfl⟩ := List.mem_iff_getElem.1 hu
  have hlen := h.length
  obtain ⟨v, h1, h2⟩ := h.get (i := i) (x := ks[i]'(by omega)) (by simp)
  have : v = us[i] := by rw [List.getElem?_eq_getElem hi] at h1; exact (Option.some.inj h1).symm
  exact ⟨i, _, List.getElem?_eq_getElem (by omega), List.getElem?_eq_getElem hi, this ▸ h2⟩
theorem keys_comp {kk : KeyK} {key : D} {ks : List D} {w : World} {M : Nat → Nat → Prop} {es : List MapEntry} (h1 : RepB w M ks (es.map (·.key))) (hk : ∀ y ∈ ks, Comp kk key y) : ∀ e ∈ es, ∃ y, Comp kk key y ∧ e.key = keyV y := fun e he => by
  obtain ⟨i, x, h2, _, h4⟩ := h1.mem (List.mem_map_of_mem (f := (·.key)) he)
  have hc := hk x (List.mem_of_getElem? h2)
  exact ⟨x, hc, hc.rep.2 _ h4⟩
theorem key_at {kk : KeyK} {key : D} {ks : List D} {w : World} {M : Nat → Nat → Prop} {es : List MapEntry} (h1 : RepB w M ks (es.map (·.key))) (hk : ∀ y ∈ ks, Comp kk key y) {j : Nat} {e : MapEntry} (he : es[j]? = some e) : ∃ y, ks[j]? = some y ∧ (e.key = keyV key ↔ y = key) := by
  have hlen := h1.length
  have hj : j < es.length := (List.getElem?_eq_some_iff.1 he).1
  simp only [List.length_map] at hlen
  obtain ⟨v, h2, h3⟩ := h1.get (i := j) (x := ks[j]'(by omega)) (by simp)
  rw [List.getElem?_map, he] at h2
  simp only [Option.map_some, Option.some.injEq] at h2
  have hc := hk _ (List.getElem_mem (l := ks) (n := j) (by omega))
  refine ⟨_, List.getElem?_eq_getElem (by omega), ?_⟩
  rw [h2, hc.rep.2 _ h3, hc.inj]
theorem run_getMap {w : World} {r c : Nat} {es : Array MapEntry} (h : w.heap[r]? = some (.map es c)) : (getObj r).run P w = .ok (.map es c) w := by simp [getObj, Sem.run, h]
theorem run_setMap {w : World} {r c : Nat} {es : Array MapEntry} (o : Obj) (h : w.heap[r]? = some (.map es c)) : (setObj r o).run P w = .ok () (w.putObj r o) := by simp [setObj, Sem.run, h, World.putObj]
theorem run_zeroValue' {t : TypeId} {i : TypeInfo} {z : Value} (hi : P.info? t = some i) (hz : i.zero = some z) (w : World) : (zeroValue t).run P w = .ok z w := by simp [zeroValue, typeInfo, hi, hz]
theorem found_hit {kk : KeyK} {key : D} {ks : List D} {w : World} {M : Nat → Nat → Prop} {es : List MapEntry} (h1 : RepB w M ks (es.map (·.key))) (hk : ∀ y ∈ ks, Comp kk key y) {i : Nat} (hi : ks[i]? = some key) (hf : ∀ j, j < i → ks[j]? ≠ some key) {r : Option (Nat × Value)} (h : Found (keyV key) es 0 r) :
    ∃ e, es[i]? = some e ∧ e.key = keyV key ∧ r = some (i, e.val) := by
  have hlen := h1.length
  simp only [List.length_map] at hlen
  have hil : i < ks.length := (List.getElem?_eq_some_iff.1 hi).1
  obtain ⟨ei, hei⟩ : ∃ e, es[i]? = some e := ⟨_, List.getElem?_eq_getElem (by omega)⟩
  obtain ⟨y, h2, h3⟩ := key_at h1 hk hei
  rw [hi] at h2
  cases h2
  have h4 := h3.2 rfl
  rcases h with ⟨_, h5⟩ | ⟨j, e, rfl, h5, h6, h7⟩
  · exact absurd h4 (h5 ei (List.mem_of_getElem? hei))
  · obtain ⟨z, h8, h9⟩ := key_at h1 hk h5
    have h10 := h9.1 h6
    subst h10
    have : i = j := by
      rcases Nat.lt_trichotomy i j with hij | hij | hij
      · exact absurd h4 (h7 i ei hij hei)
      · exact hij
      · exact absurd h8 (hf j hij)
    subst this
    rw [hei] at h5
    cases h5
    exact ⟨ei, hei, h4, by simp⟩
theorem found_miss {kk : KeyK} {key : D} {ks : List D} {w : World} {M : Nat → Nat → Prop} {es : List MapEntry} (h1 : RepB w M ks (es.map (·.key))) (hk : ∀ y ∈ ks, Comp kk key y) (hn : key ∉ ks) {r : Option (Nat × Value)} (h : Found (keyV key) es 0 r) : r = none := by
  rcases h with h | ⟨j, e, _, h5, h6, _⟩
  · exact h.1
  · obtain ⟨y, h8, h9⟩ := key_at h1 hk h5
    have := h9.1 h6
    subst this
    exact absurd (List.mem_of_getElem? h8) hn
theorem run_lookup_hit {t k e i r c : Nat} {kk : KeyK} {es : Array MapEntry} [ht : TMap P t k e] [hkk : TKey P k kk] {key y : D} {ks vs : List D} {w : World} {M : Nat → Nat → Prop} (h1 : RepB w M ks (es.toList.map (·.key))) (h2 : RepB w M vs (es.toList.map (·.val)))
    (hk : ∀ y ∈ ks, Comp kk key y) (hc : Comp kk key key) (hi : ks[i]? = some key) (hf : ∀ j, j < i → ks[j]? ≠ some key) (hv : vs[i]? = some y) (ok : Bool) :
    ∃ u, RepD w M y u ∧ ∀ w', w'.heap[r]? = some (.map es c) → (Instr.lookup t (.map (some r)) (keyV key) ok).run P w' = .ok (if ok then .tuple #[u, .bool true] else u) w' := by
  obtain ⟨u, h3, h4⟩ := h2.get hv
  refine ⟨u, h4, fun w' hw' => ?_⟩
  obtain ⟨q, h5, h6⟩ := findKey_run (P := P) (t := k) (x := key) w' es.toList (keys_comp h1 hk)
  obtain ⟨en, h7, h8, rfl⟩ := found_hit h1 hk hi hf h6
  rw [List.getElem?_map, h7] at h3
  simp only [Option.map_some, Option.some.injEq] at h3
  subst h3
  simp only [Instr.lookup, Sem.run_bind, run_underlying (map_parts ht), Result.andThen_ok, run_getMap hw', Sem.run_pure, hc.check, h5]
theorem run_lookup_miss {t k e r c : Nat} {kk : KeyK} {es : Array MapEntry} [ht : TMap P t k e] [hkk : TKey P k kk] {key : D} {ks : List D} {w : World} {M : Nat → Nat → Prop} (h1 : RepB w M ks (es.toList.map (·.key)))
    (hk : ∀ y ∈ ks, Comp kk key y) (hc : Comp kk key key) (hn : key ∉ ks) {i : TypeInfo} {z : Value} (hi : P.info? e = some i) (hz : i.zero = some z) (ok : Bool) :
    ∀ w', w'.heap[r]? = some (.map es c) → (Instr.lookup t (.map (some r)) (keyV key) ok).run P w' = .ok (if ok then .tuple #[z, .bool false] else z) w' := by
  intro w' hw'
  obtain ⟨q, h5, h6⟩ := findKey_run (P := P) (t := k) (x := key) w' es.toList (keys_comp h1 hk)
  have := found_miss h1 hk hn h6
  subst this
  simp only [Instr.lookup, Sem.run_bind, run_underlying (map_parts ht), Result.andThen_ok, run_getMap hw', Sem.run_pure, hc.check, h5, run_zeroValue' hi hz]
end
section
variable {E : Set} {Q : Exit → Sd → Prop} {ops : Array Oper} {draw : Bool} {rest : Todo} {way : Way3} {ty : TypeId} {pos : String} {af : Array Edge} {gd : Option (Nat × Bool)} {dst : Option Tmp}
variable {env : List (Nat × V)} {H : List (Nat × Ob)} {gl : List (Nat × List D)} {d : Nat}
def pairV : Bool → V → Bool → V
  | true, v, b => .tup [v, .d (.bool b)]
  | false, v, _ => v
theorem q_hit {S : Sd} {t k e n i : Nat} {kk : KeyK} {x y : Operand} {key z : D} {ks vs : List D} {ok : Bool} [ht : TMap E.P t k e] [hkk : TKey E.P k kk] (hx : S.ev x = some (.map n)) (hox : okOp x = true) (hl : look n S.H = some (.map ks vs)) (hy : S.ev y = some (.d key)) (hoy : okOp y = true)
    (hk : ∀ y ∈ ks, Comp kk key y) (hc : Comp kk key key) (hi : ks[i]? = some key) (hf : ∀ j, j < i → ks[j]? ≠ some key) (hv : vs[i]? = some z) : Quiet E S ⟨dst, .lookup t x y ok, ty, pos, af, gd⟩ (pairV ok (.d z) true) := Quiet.mk fun β a w h => by
  obtain ⟨r, h1, h2⟩ := h.ev hx hox
  obtain ⟨r', es, c, h3, h4, h5, h6, hbn⟩ := h.obs n _ hl
  rw [h1] at h3
  cases h3
  have hkey : a.eval y = keyV key := hc.rep.1 _ (h.ev hy hoy)
  obtain ⟨u, h7, h8⟩ := run_lookup_hit (P := E.P) (t := t) (r := r) (c := c) h5 h6 hk hc hi hf hv ok
  refine ⟨if ok then .tuple #[u, .bool true] else u, fun w' g => ?_, ?_⟩
  · have := h8 w' (grows_heap g h4)
    simp only [execOp, h2, hkey, Sem.run_bind, this, Result.andThen_ok, Sem.run_pure]
  · cases ok
    · exact h7
    · exact ⟨[u, .bool true], rfl, u, _, rfl, h7, _, _, rfl, rfl, rfl⟩
theorem q_miss {S : Sd} {t k e n : Nat} {kk : KeyK} {x y : Operand} {key : D} {ks vs : List D} {ok : Bool} {zv : V} [ht : TMap E.P t k e] [hkk : TKey E.P k kk] [hz : TZeroV E.P e zv] (hx : S.ev x = some (.map n)) (hox : okOp x = true) (hl : look n S.H = some (.map ks vs)) (hy : S.ev y = some (.d key)) (hoy : okOp y = true)
    (hk : ∀ y ∈ ks, Comp kk key y) (hc : Comp kk key key) (hn : key ∉ ks) : Quiet E S ⟨dst, .lookup t x y ok, ty, pos, af, gd⟩ (pairV ok zv false) := Quiet.mk fun β a w h => by
  obtain ⟨r, h1, h2⟩ := h.ev hx hox
  obtain ⟨r', es, c, h3, h4, h5, h6, hbn⟩ := h.obs n _ hl
  rw [h1] at h3
  cases h3
  have hkey : a.eval y = keyV key := hc.rep.1 _ (h.ev hy hoy)
  obtain ⟨i, z, hi, hzi, hzr⟩ := zeroV_rep hz
  have h8 := run_lookup_miss (P := E.P) (t := t) (r := r) (c := c) h5 hk hc hn hi hzi ok
  refine ⟨if ok then .tuple #[z, .bool false] else z, fun w' g => ?_, ?_⟩
  · have := h8 w' (grows_heap g h4)
    simp only [execOp, h2, hkey, Sem.run_bind, this, Result.andThen_ok, Sem.run_pure]
  · cases ok
    · exact hzr
    · exact ⟨[z, .bool false], rfl, z, _, rfl, hzr, _, _, rfl, rfl, rfl⟩
theorem q_hit_d {S : Sd} {t k e i : Nat} {kk : KeyK} {x y : Operand} {key z : D} {ks vs : List D} {ok : Bool} [ht : TMap E.P t k e] [hkk : TKey E.P k kk] (hx : S.ev x = some (.d (.map ks vs))) (hox : okOp x = true) (hy : S.ev y = some (.d key)) (hoy : okOp y = true)
    (hk : ∀ y ∈ ks, Comp kk key y) (hc : Comp kk key key) (hi : ks[i]? = some key) (hf : ∀ j, j < i → ks[j]? ≠ some key) (hv : vs[i]? = some z) : Quiet E S ⟨dst, .lookup t x y ok, ty, pos, af, gd⟩ (pairV ok (.d z) true) := Quiet.mk fun β a w h => by
  obtain ⟨r, es, c, h3, h4, _, h5, h6⟩ := h.ev hx hox
  have hkey : a.eval y = keyV key := hc.rep.1 _ (h.ev hy hoy)
  obtain ⟨u, h7, h8⟩ := run_lookup_hit (P := E.P) (t := t) (r := r) (c := c) h5 h6 hk hc hi hf hv ok
  refine ⟨if ok then .tuple #[u, .bool true] else u, fun w' g => ?_, ?_⟩
  · have := h8 w' (grows_heap g h4)
    simp only [execOp, h3, hkey, Sem.run_bind, this, Result.andThen_ok, Sem.run_pure]
  · cases ok
    · exact h7
    · exact ⟨[u, .bool true], rfl, u, _, rfl, h7, _, _, rfl, rfl, rfl⟩
theorem q_miss_d {S : Sd} {t k e : Nat} {kk : KeyK} {x y : Operand} {key : D} {ks vs : List D} {ok : Bool} {zv : V} [ht : TMap E.P t k e] [hkk : TKey E.P k kk] [hz : TZeroV E.P e zv] (hx : S.ev x = some (.d (.map ks vs))) (hox : okOp x = true) (hy : S.ev y = some (.d key)) (hoy : okOp y = true)
    (hk : ∀ y ∈ ks, Comp kk key y) (hc : Comp kk key key) (hn : key ∉ ks) : Quiet E S ⟨dst, .lookup t x y ok, ty, pos, af, gd⟩ (pairV ok zv false) := Quiet.mk fun β a w h => by
  obtain ⟨r, es, c, h3, h4, _, h5, h6⟩ := h.ev hx hox
  have hkey : a.eval y = keyV key := hc.rep.1 _ (h.ev hy hoy)
  obtain ⟨i, z, hi, hzi, hzr⟩ := zeroV_rep hz
  have h8 := run_lookup_miss (P := E.P) (t := t) (r := r) (c := c) h5 hk hc hn hi hzi ok
  refine ⟨if ok then .tuple #[z, .bool false] else z, fun w' g => ?_, ?_⟩
  · have := h8 w' (grows_heap g h4)
    simp only [execOp, h3, hkey, Sem.run_bind, this, Result.andThen_ok, Sem.run_pure]
  · cases ok
    · exact hzr
    · exact ⟨[z, .bool false], rfl, z, _, rfl, hzr, _, _, rfl, rfl, rfl⟩
theorem first_at {ks : List D} {key : D} (h : key ∈ ks) : ∃ i : Nat, ks[i]? = some key ∧ ∀ j : Nat, j < i → ks[j]? ≠ some key := by
  obtain ⟨i, hi, h1⟩ := List.mem_iff_getElem.1 h
  obtain ⟨m, h2, h3⟩ := least (p := fun i : Nat => ks[i]? = some key) ⟨i, by rw [List.getElem?_eq_getElem hi, h1]⟩
  exact ⟨m, h2, fun j hj hk => by have := h3 j hk; omega⟩
theorem s_lookup {t k e n : Nat} {kk : KeyK} {x y : Operand} {key : D} {ks vs : List D} {ok : Bool} {zv : V} [ht : TMap E.P t k e] [hkk : TKey E.P k kk] [hz : TZeroV E.P e zv] (hx : Sd.ev ⟨env, H, gl⟩ x = some (.map n)) (hox : okOp x = true) (hl : look n H = some (.map ks vs)) (hy : Sd.ev ⟨env, H, gl⟩ y = some (.d key)) (hoy : okOp y = true)
    (hc : Comp kk key key) (hd : d < E.C.nt) (hg : Sd.gd ⟨env, H, gl⟩ ops ⟨some d, .lookup t x y ok, ty, pos, af, gd⟩ = some true) (hw : way.known = false) (hk : ∀ y ∈ ks, Comp kk key y) (hlen : vs.length = ks.length)
    (h1 : ∀ (i : Nat) z, ks[i]? = some key → vs[i]? = some z → (∀ j : Nat, j < i → ks[j]? ≠ some key) → TR E draw ops Q rest ⟨(d, pairV ok (.d z) true) :: env, H, gl⟩)
    (h2 : key ∉ ks → TR E draw ops Q rest ⟨(d, pairV ok zv false) :: env, H, gl⟩) : TR E draw ops Q (.step ⟨some d, .lookup t x y ok, ty, pos, af, gd⟩ way rest) ⟨env, H, gl⟩ := by
  by_cases hm : key ∈ ks
  · obtain ⟨i, hi, hf⟩ := first_at hm
    have hlt : i < ks.length := (List.getElem?_eq_some_iff.1 hi).1
    have hv : vs[i]? = some (vs[i]'(by omega)) := List.getElem?_eq_getElem (by omega)
    exact tr_quiet (q_hit (kk := kk) hx hox hl hy hoy hk hc hi hf hv) rfl hd hg rfl hw (h1 i _ hi hv hf)
  · exact tr_quiet (q_miss (kk := kk) hx hox hl hy hoy hk hc hm) rfl hd hg rfl hw (h2 hm)
theorem s_lookup_d {t k e : Nat} {kk : KeyK} {x y : Operand} {key : D} {ks vs : List D} {ok : Bool} {zv : V} [ht : TMap E.P t k e] [hkk : TKey E.P k kk] [hz : TZeroV E.P e zv] (hx : Sd.ev ⟨env, H, gl⟩ x = some (.d (.map ks vs))) (hox : okOp x = true) (hy : Sd.ev ⟨env, H, gl⟩ y = some (.d key)) (hoy : okOp y = true)
    (hc : Comp kk key key) (hd : d < E.C.nt) (hg : Sd.gd ⟨env, H, gl⟩ ops ⟨some d, .lookup t x y ok, ty, pos, af, gd⟩ = some true) (hw : way.known = false) (hk : ∀ y ∈ ks, Comp kk key y) (hlen : vs.length = ks.length)
    (h1 : ∀ (i : Nat) z, ks[i]? = some key → vs[i]? = some z → (∀ j : Nat, j < i → ks[j]? ≠ some key) → TR E draw ops Q rest ⟨(d, pairV ok (.d z) true) :: env, H, gl⟩)
    (h2 : key ∉ ks → TR E draw ops Q rest ⟨(d, pairV ok zv false) :: env, H, gl⟩) : TR E draw ops Q (.step ⟨some d, .lookup t x y ok, ty, pos, af, gd⟩ way rest) ⟨env, H, gl⟩ := by
  by_cases hm : key ∈ ks
  · obtain ⟨i, hi, hf⟩ := first_at hm
    have hlt : i < ks.length := (List.getElem?_eq_some_iff.1 hi).1
    have hv : vs[i]? = some (vs[i]'(by omega)) := List.getElem?_eq_getElem (by omega)
    exact tr_quiet (q_hit_d (kk := kk) hx hox hy hoy hk hc hi hf hv) rfl hd hg rfl hw (h1 i _ hi hv hf)
  · exact tr_quiet (q_miss_d (kk := kk) hx hox hy hoy hk hc hm) rfl hd hg rfl hw (h2 hm)
theorem StB.setMap {C : Ctx} {S : Sd} {β : Nat → Value} {a : Act} {w : World} (h : StB C β S a w) {n r : Nat} {ob ob' : Ob} (hl : look n S.H = some ob) (hob : ob'.mut = fun _ => True) (hom : ∀ o, ob.mut o) (hnr : ∀ e sz sh xs k, ob' ≠ .row e sz sh xs k) (hb' : β n = .map (some r)) {o o' : Obj} (ho : w.heap[r]? = some o)
    (hrep : RepO (w.putObj r o') (Mut C.M0 β ((n, ob') :: S.H)) β ((n, ob') :: S.H) (β n) ob' ∨ (Keeps w (Mut C.M0 β S.H) (w.putObj r o') (Mut C.M0 β ((n, ob') :: S.H)) → RepO (w.putObj r o') (Mut C.M0 β ((n, ob') :: S.H)) β ((n, ob') :: S.H) (β n) ob')) : StB C β { S with H := (n, ob') :: S.H } a (w.putObj r o') := by
  have hbn : hb (β n) = some r := by rw [hb']; rfl
  have hH : ∀ m e sz sh xs k, look m ((n, ob') :: S.H) = some (.row e sz sh xs k) → ∃ sh' xs', look m S.H = some (.row e sz sh' xs' k) := fun m e sz sh xs k hm => by
    rw [look_set] at hm
    split at hm
    · cases hm; exact absurd rfl (hnr _ _ _ _ _)
    · exact ⟨sh, xs, hm⟩
  refine h.turn hl (fun _ _ => rfl) rfl rfl rfl (by simp [World.putObj]) (fun k _ hk => World.putObj_heap_other (fun e => hk (by rw [hbn, e]))) (fun b h => .inl h) (fun b' o' y h4 h5 _ => absurd (hom o') h5) (fun _ _ _ _ _ => hom _)
    (fun k t x v _ => RepV.keep k (fun _ => rfl) hH x v) (fun _ => rfl) (fun k m cs vs _ _ => RepL.keep k (fun _ => rfl) hH cs vs) (fun k => ?_)
  rcases hrep with h | h
  · exact h
  · exact h k
theorem map_set {es : List MapEntry} {i : Nat} {e : MapEntry} (he : es[i]? = some e) {u : Value} : (es.modify i fun x => { x with key := e.key, val := u }).map (·.key) = es.map (·.key) ∧ (es.modify i fun x => { x with key := e.key, val := u }).map (·.val) = (es.map (·.val)).set i u := by
  have hi := (List.getElem?_eq_some_iff.1 he).1
  have e1 := (List.getElem?_eq_some_iff.1 he).2
  constructor
  · apply List.ext_getElem?
    intro j
    rw [List.getElem?_map, List.getElem?_map, List.getElem?_modify]
    split
    · rename_i hij; subst hij; rw [he]; rfl
    · simp
  · apply List.ext_getElem?
    intro j
    rw [List.getElem?_map, List.getElem?_modify, List.getElem?_set]
    split
    · rename_i hij; subst hij; rw [he, if_pos (by simpa using hi)]; rfl
    · simp
theorem t_update_hit {S : Sd} {t k e n i : Nat} {kk : KeyK} {x y z : Operand} {key u : D} {v : V} {ks vs : List D} [ht : TMap E.P t k e] [hkk : TKey E.P k kk] (hx : S.ev x = some (.map n)) (hox : okOp x = true) (hl : look n S.H = some (.map ks vs)) (hy : S.ev y = some (.d key)) (hoy : okOp y = true) (hz : S.ev z = some v) (hoz : okOp z = true) (hu : ToD S.H v u)
    (hk : ∀ y ∈ ks, Comp kk key y) (hc : Comp kk key key) (hi : ks[i]? = some key) (hf : ∀ j, j < i → ks[j]? ≠ some key) : Turn E S ⟨none, .mapUpdate t x y z, ty, pos, af, gd⟩ { S with H := (n, .map ks (vs.set i u)) :: S.H } := Turn.mk fun β a w h => by
  obtain ⟨r, h1, h2⟩ := h.ev hx hox
  obtain ⟨r', es, c, h3, h4, h5, h6, hbn⟩ := h.obs n _ hl
  rw [h1] at h3
  cases h3
  have hkey : a.eval y = keyV key := hc.rep.1 _ (h.ev hy hoy)
  have hval := hu.rep h (h.ev hz hoz)
  obtain ⟨q, h7, h8⟩ := findKey_run (P := E.P) (t := k) (x := key) w es.toList (keys_comp h5 hk)
  obtain ⟨en, h9, h10, rfl⟩ := found_hit h5 hk hi hf h8
  have hge : es[i]? = some en := by simpa using h9
  refine ⟨w.putObj r (.map (es.modify i fun x => { x with key := keyV key, val := a.eval z }) c), ?_, β, h.setMap hl rfl (fun _ => trivial) (fun _ _ _ _ _ h => by cases h) h1 h4 (.inr fun kp => ⟨r, _, c, h1, World.putObj_heap_same (Array.getElem?_eq_some_iff.1 h4).1, ?_, ?_, ?_⟩)⟩
  · simp only [execOp, h2, hkey, Instr.mapUpdate, Sem.run_bind, run_underlying (map_parts ht), Result.andThen_ok, run_getMap h4, hc.check, h7, hge, Option.map_some, Option.getD_some, h10, hc.stays, run_setMap _ h4, Sem.run_pure]
  · have := (map_set h9 (u := a.eval z)).1
    rw [h10] at this
    rw [Array.toList_modify, this]
    exact RepB.keep kp _ _ h5
  · have := (map_set h9 (u := a.eval z)).2
    rw [h10] at this
    rw [Array.toList_modify, this]
    exact (RepB.keep kp _ _ h6).set i (RepD.keep kp _ _ hval)
  · intro en' hen'
    rw [Array.toList_modify] at hen'
    obtain ⟨j, hj, rfl⟩ := List.mem_iff_getElem.1 hen'
    rw [List.getElem_modify]
    have hj' : j < es.toList.length := by simpa using hj
    have := hbn es.toList[j] (List.getElem_mem hj')
    split
    · exact this
    · exact this
theorem t_update_miss {S : Sd} {t k e n : Nat} {kk : KeyK} {x y z : Operand} {key u : D} {v : V} {ks vs : List D} [ht : TMap E.P t k e] [hkk : TKey E.P k kk] (hx : S.ev x = some (.map n)) (hox : okOp x = true) (hl : look n S.H = some (.map ks vs)) (hy : S.ev y = some (.d key)) (hoy : okOp y = true) (hz : S.ev z = some v) (hoz : okOp z = true) (hu : ToD S.H v u)
    (hk : ∀ y ∈ ks, Comp kk key y) (hc : Comp kk key key) (hn : key ∉ ks) : Turn E S ⟨none, .mapUpdate t x y z, ty, pos, af, gd⟩ { S with H := (n, .map (ks ++ [key]) (vs ++ [u])) :: S.H } := Turn.mk fun β a w h => by
  obtain ⟨r, h1, h2⟩ := h.ev hx hox
  obtain ⟨r', es, c, h3, h4, h5, h6, hbn⟩ := h.obs n _ hl
  rw [h1] at h3
  cases h3
  have hkr := h.ev hy hoy
  have hkey : a.eval y = keyV key := hc.rep.1 _ hkr
  have hval := hu.rep h (h.ev hz hoz)
  obtain ⟨q, h7, h8⟩ := findKey_run (P := E.P) (t := k) (x := key) w es.toList (keys_comp h5 hk)
  have := found_miss h5 hk hn h8
  subst this
  refine ⟨w.putObj r (.map (es.push { key := keyV key, val := a.eval z, born := c }) (c + 1)), ?_, β, h.setMap hl rfl (fun _ => trivial) (fun _ _ _ _ _ h => by cases h) h1 h4 (.inr fun kp => ⟨r, _, c + 1, h1, World.putObj_heap_same (Array.getElem?_eq_some_iff.1 h4).1, ?_, ?_, ?_⟩)⟩
  · simp only [execOp, h2, hkey, Instr.mapUpdate, Sem.run_bind, run_underlying (map_parts ht), Result.andThen_ok, run_getMap h4, hc.check, h7, run_setMap _ h4, Sem.run_pure]
  · rw [Array.toList_push, List.map_append]
    exact (RepB.keep kp _ _ h5).append ⟨_, [], rfl, RepD.keep kp _ _ (hkey ▸ hkr), rfl⟩
  · rw [Array.toList_push, List.map_append]
    exact (RepB.keep kp _ _ h6).append ⟨_, [], rfl, RepD.keep kp _ _ hval, rfl⟩
  · intro en' hen'
    rw [Array.toList_push] at hen'
    rcases List.mem_append.1 hen' with hen' | hen'
    · have := hbn _ hen'; omega
    · rw [List.mem_singleton] at hen'; subst hen'; exact Nat.lt_succ_self c
theorem s_update {t k e n : Nat} {kk : KeyK} {x y z : Operand} {key u : D} {v : V} {ks vs : List D} [ht : TMap E.P t k e] [hkk : TKey E.P k kk] (hx : Sd.ev ⟨env, H, gl⟩ x = some (.map n)) (hox : okOp x = true) (hl : look n H = some (.map ks vs)) (hy : Sd.ev ⟨env, H, gl⟩ y = some (.d key)) (hoy : okOp y = true) (hz : Sd.ev ⟨env, H, gl⟩ z = some v) (hoz : okOp z = true) (hu : ToD H v u)
    (hc : Comp kk key key) (hg : Sd.gd ⟨env, H, gl⟩ ops ⟨none, .mapUpdate t x y z, ty, pos, af, gd⟩ = some true) (hw : isBar draw way = true) (hk : ∀ y ∈ ks, Comp kk key y)
    (h1 : ∀ i : Nat, ks[i]? = some key → (∀ j : Nat, j < i → ks[j]? ≠ some key) → TR E draw ops Q rest ⟨env, (n, .map ks (vs.set i u)) :: H, gl⟩)
    (h2 : key ∉ ks → TR E draw ops Q rest ⟨env, (n, .map (ks ++ [key]) (vs ++ [u])) :: H, gl⟩) : TR E draw ops Q (.step ⟨none, .mapUpdate t x y z, ty, pos, af, gd⟩ way rest) ⟨env, H, gl⟩ := by
  by_cases hm : key ∈ ks
  · obtain ⟨i, hi, hf⟩ := first_at hm
    exact tr_turn (t_update_hit (kk := kk) hx hox hl hy hoy hz hoz hu hk hc hi hf) rfl hg rfl hw (h1 i hi hf)
  · exact tr_turn (t_update_miss (kk := kk) hx hox hl hy hoy hz hoz hu hk hc hm) rfl hg rfl hw (h2 hm)
theorem StB.newMap {C : Ctx} {S : Sd} {β : Nat → Value} {a : Act} {w : World} (h : StB C β S a w) {n : Nat} (hn : S.fresh n = true) : StB C (upd β n (.map (some w.heap.size))) { S with H := (n, .map [] []) :: S.H } a (w.alloc (.map #[] 0)) := by
  refine h.newObj hn (.map (some w.heap.size)) (Grows.alloc w _) (fun b hb' => ?_) (.map [] []) fun k => ⟨_, #[], 0, rfl, heap_alloc_new w _, rfl, rfl, fun e h => by cases h⟩
  simp only [hb, Option.some.injEq] at hb'
  omega
theorem g_makeMap {S : Sd} {n t : Nat} (hn : S.fresh n = true) : Grow E S ⟨some d, .makeMap t none, ty, pos, af, gd⟩ { S with H := (n, .map [] []) :: S.H } (.map n) := Grow.mk fun β a w h => by
  refine ⟨.map (some w.heap.size), _, _, ?_, Grows.alloc w _, h.newMap hn, ⟨w.heap.size, upd_same _ _ _, rfl⟩⟩
  simp [execOp, run_makeMap]
theorem s_makeMap (n : Nat) {t : Nat} (hn : Sd.fresh ⟨env, H, gl⟩ n = true) (hd : d < E.C.nt) (hg : Sd.gd ⟨env, H, gl⟩ ops ⟨some d, .makeMap t none, ty, pos, af, gd⟩ = some true) (hw : way.loud = true)
    (h : TR E draw ops Q rest ⟨(d, .map n) :: env, (n, .map [] []) :: H, gl⟩) : TR E draw ops Q (.step ⟨some d, .makeMap t none, ty, pos, af, gd⟩ way rest) ⟨env, H, gl⟩ := tr_grow (g_makeMap hn) rfl hd hg rfl hw h
end
end Go.Proofs.YtcblefmjacofgaaGreatDoor
namespace Go.Proofs.YtcblefmjacofgaaGreatDoor
open Go.RowKit
def V.SameNames (β β' : Nat → Value) (H H' : List (Nat × Ob)) (n : Nat) : Prop := β' n = β n ∧ ∀ e sz sh xs k, look n H' = some (.row e sz sh xs k) → ∃ sh' xs', look n H = some (.row e sz sh' xs' k)
mutual
theorem RepV.gen {w w' : World} {M M' : Nat → Nat → Prop} {β β' : Nat → Value} {H H' : List (Nat × Ob)} (k : Keeps w M w' M') :
    ∀ (x : V) (v : Value), (∀ n, x.says n = true → V.SameNames β β' H H' n) → RepV w M β H x v → RepV w' M' β' H' x v
  | .d x, v, _, h => RepD.keep k x v h
  | .own n q, v, hs, h => fun e sz sh xs hl => by
    obtain ⟨h1, h2⟩ := hs n (by simp [V.says])
    obtain ⟨sh', xs', h3⟩ := h2 e sz sh xs q hl
    rw [h1]
    exact h e sz sh' xs' h3
  | .nils _, _, _, h => h
  | .ptr n off, _, hs, h => by simp only [RepV] at h ⊢; rw [(hs n (by simp [V.says])).1]; exact h
  | .sl n off _ _, _, hs, h => by simp only [RepV] at h ⊢; rw [(hs n (by simp [V.says])).1]; exact h
  | .el n q i off, v, hs, h => fun e sz sh xs hl => by
    obtain ⟨h1, h2⟩ := hs n (by simp [V.says])
    obtain ⟨sh', xs', h3⟩ := h2 e sz sh xs q hl
    rw [h1]
    exact h e sz sh' xs' h3
  | .suf n q p, v, hs, h => fun e sz sh xs hl => by
    obtain ⟨h1, h2⟩ := hs n (by simp [V.says])
    obtain ⟨sh', xs', h3⟩ := h2 e sz sh xs q hl
    rw [h1]
    exact h e sz sh' xs' h3
  | .map n, _, hs, h => by simp only [RepV] at h ⊢; rw [(hs n (by simp [V.says])).1]; exact h
  | .clo _ f c, _, hs, ⟨fs, gs, h1, h2, h3⟩ => ⟨fs, gs, h1, RepL.gen k f fs (fun n hn => hs n (by simp [V.says, hn])) h2, RepL.gen k c gs (fun n hn => hs n (by simp [V.says, hn])) h3⟩
  | .tup vs, _, hs, ⟨us, h1, h2⟩ => ⟨us, h1, RepL.gen k vs us (fun n hn => hs n (by simpa [V.says] using hn)) h2⟩
  | .agg vs, _, hs, ⟨us, h1, h0, h2⟩ => ⟨us, h1, h0, RepL.gen k vs us (fun n hn => hs n (by simpa [V.says] using hn)) h2⟩
theorem RepL.gen {w w' : World} {M M' : Nat → Nat → Prop} {β β' : Nat → Value} {H H' : List (Nat × Ob)} (k : Keeps w M w' M') :
    ∀ (xs : List V) (vs : List Value), (∀ n, saysL n xs = true → V.SameNames β β' H H' n) → RepL w M β H xs vs → RepL w' M' β' H' xs vs
  | [], _, _, h => h
  | x :: xs, _, hs, ⟨v, r, h1, h2, h3⟩ => ⟨v, r, h1, RepV.gen k x v (fun n hn => hs n (by simp [saysL, hn])) h2, RepL.gen k xs r (fun n hn => hs n (by simp [saysL, hn])) h3⟩
end
structure Obs (w : World) (M : Nat → Nat → Prop) (β : Nat → Value) (H : List (Nat × Ob)) : Prop where
  obs : ∀ n ob, look n H = some ob → RepO w (Mut M β H) β H (β n) ob
  apart : ∀ n m b ob ob', n ≠ m → look n H = some ob → look m H = some ob' → hb (β n) = some b → hb (β m) ≠ some b
  out : ∀ n ob b o, look n H = some ob → hb (β n) = some b → ¬ M b o
def blks (β : Nat → Value) (H : List (Nat × Ob)) : List Nat := H.filterMap fun p => hb (β p.1)
def keyIn (H : List (Nat × Ob)) (n : Nat) : Bool := (look n H).isSome
def wholeMut (H : List (Nat × Ob)) : Bool := H.all fun p => match p.2 with | .row _ _ sh _ _ => !sh | _ => true
mutual
def V.within (p : Nat → Bool) : V → Bool
  | .d _ => true
  | .own n _ => p n
  | .nils _ => true
  | .ptr n _ => p n
  | .sl n _ _ _ => p n
  | .el n _ _ _ => p n
  | .suf n _ _ => p n
  | .map n => p n
  | .clo _ f c => withinL p f && withinL p c
  | .tup vs => withinL p vs
  | .agg vs => withinL p vs
def withinL (p : Nat → Bool) : List V → Bool
  | [] => true
  | v :: r => v.within p && withinL p r
end
mutual
theorem V.within_says {p : Nat → Bool} : ∀ {v : V}, v.within p = true → ∀ n, v.says n = true → p n = true
  | .d _, _, n, h => by simp [V.says] at h
  | .own m _, h, n, h' => by simp only [V.says] at h'; rw [← Nat.eq_of_beq_eq_true h']; exact h
  | .nils _, _, n, h => by simp [V.says] at h
  | .ptr m _, h, n, h' => by simp only [V.says] at h'; rw [← Nat.eq_of_beq_eq_true h']; exact h
  | .sl m _ _ _, h, n, h' => by simp only [V.says] at h'; rw [← Nat.eq_of_beq_eq_true h']; exact h
  | .el m _ _ _, h, n, h' => by simp only [V.says] at h'; rw [← Nat.eq_of_beq_eq_true h']; exact h
  | .suf m _ _, h, n, h' => by simp only [V.says] at h'; rw [← Nat.eq_of_beq_eq_true h']; exact h
  | .map m, h, n, h' => by simp only [V.says] at h'; rw [← Nat.eq_of_beq_eq_true h']; exact h
  | .clo _ f c, h, n, h' => by
    simp only [V.says, Bool.or_eq_true] at h'
    simp only [V.within, Bool.and_eq_true] at h
    rcases h' with h' | h'
    · exact within_saysL h.1 n h'
    · exact within_saysL h.2 n h'
  | .tup vs, h, n, h' => within_saysL (by simpa [V.within] using h) n (by simpa [V.says] using h')
  | .agg vs, h, n, h' => within_saysL (by simpa [V.within] using h) n (by simpa [V.says] using h')
theorem within_saysL {p : Nat → Bool} : ∀ {vs : List V}, withinL p vs = true → ∀ n, saysL n vs = true → p n = true
  | [], _, n, h => by simp [saysL] at h
  | v :: r, h, n, h' => by
    simp only [saysL, Bool.or_eq_true] at h'
    simp only [withinL, Bool.and_eq_true] at h
    rcases h' with h' | h'
    · exact V.within_says h.1 n h'
    · exact within_saysL h.2 n h'
end
def closedH (H : List (Nat × Ob)) : Bool := H.all fun p => match p.2 with | .box cs => withinL (keyIn H) cs | .imap cs => withinL (keyIn H) cs | _ => true
def rowsOk (H0 H1 : List (Nat × Ob)) : Bool := H1.all fun p => match p.2 with
  | .row e sz _ _ k => (match look p.1 H0 with | none => true | some (.row e' sz' _ _ k') => Nat.beq e e' && Nat.beq sz sz' && Nat.beq k k' | _ => false)
  | _ => true
def keysOk (H0 H1 : List (Nat × Ob)) : Bool := H0.all fun p => keyIn H1 p.1
def endOk (H0 H1 : List (Nat × Ob)) (v : V) : Bool := keysOk H0 H1 && rowsOk H0 H1 && closedH H1 && v.within (keyIn H1)
theorem look_in {H : List (Nat × Ob)} {n : Nat} {ob : Ob} (h : look n H = some ob) : (n, ob) ∈ H := look_mem h
theorem look_some {H : List (Nat × Ob)} {p : Nat × Ob} (h : p ∈ H) : ∃ ob, look p.1 H = some ob := by
  induction H with
  | nil => cases h
  | cons q H ih =>
    rw [show q = (q.1, q.2) from rfl, look_cons]
    split
    · exact ⟨_, rfl⟩
    · rename_i hne
      rcases List.mem_cons.1 h with rfl | h
      · exact absurd rfl hne
      · exact ih h
theorem mem_blks {β : Nat → Value} {H : List (Nat × Ob)} {b : Nat} : b ∈ blks β H ↔ ∃ n ob, look n H = some ob ∧ hb (β n) = some b := by
  unfold blks
  rw [List.mem_filterMap]
  constructor
  · rintro ⟨p, h1, h2⟩
    obtain ⟨ob, h3⟩ := look_some h1
    exact ⟨p.1, ob, h3, h2⟩
  · rintro ⟨n, ob, h1, h2⟩
    exact ⟨(n, ob), look_in h1, h2⟩
theorem wholeMut_mut {H : List (Nat × Ob)} (h : wholeMut H = true) {n : Nat} {ob : Ob} (hl : look n H = some ob) (o : Nat) : ob.mut o := by
  have := List.all_eq_true.1 h _ (look_in hl)
  cases ob with
  | row e sz sh xs k => simp only [Bool.not_eq_true'] at this; exact .inl this
  | _ => trivial
def FnE (P : Program) (gl : List (Nat × List D)) (f : FuncId) (args : List V) (H0 : List (Nat × Ob)) (R : V → List (Nat × Ob) → Prop) : Prop :=
  ∀ (w : World) (M : Nat → Nat → Prop) (β : Nat → Value) (us : List Value), (∀ b o, M b o → b < w.heap.size) → RepL w (Mut M β H0) β H0 args us → Obs w M β H0 → Globs gl w (Mut M β H0) →
    Calls P f us.toArray w fun e w' => ∃ v x H1 β1, R v H1 ∧ endOk H0 H1 v = true ∧ e = .returned x ∧ Frm (blks β H0) w w' ∧ (∀ n, (look n H0).isSome = true → β1 n = β n) ∧
      (∀ n b, look n H0 = none → (look n H1).isSome = true → hb (β1 n) = some b → w.heap.size ≤ b) ∧ Obs w' M β1 H1 ∧ RepV w' (Mut M β1 H1) β1 H1 v x
theorem FnE.mono {P : Program} {gl : List (Nat × List D)} {f : FuncId} {args : List V} {H0 : List (Nat × Ob)} {R R' : V → List (Nat × Ob) → Prop} (h : FnE P gl f args H0 R) (hr : ∀ v H1, R v H1 → R' v H1) : FnE P gl f args H0 R' :=
  fun w M β us h1 h2 h3 h4 => (h w M β us h1 h2 h3 h4).mono fun _ _ ⟨v, x, H1, β1, h5, h6⟩ => ⟨v, x, H1, β1, hr v H1 h5, h6⟩
inductive ArgE (H : List (Nat × Ob)) : V → V → Prop
  | own {n k e sz : Nat} {xs : List D} (h : look n H = some (.row e sz true xs k)) : ArgE H (.own n k) (.d (.list sz xs))
  | nils (sz : Nat) : ArgE H (.nils sz) (.d (.list sz []))
  | same (v : V) : ArgE H v v
inductive ArgsE (H : List (Nat × Ob)) : List V → List V → Prop
  | nil : ArgsE H [] []
  | cons {v v' : V} {vs vs' : List V} (h : ArgE H v v') (t : ArgsE H vs vs') : ArgsE H (v :: vs) (v' :: vs')
theorem ArgE.rep {C : Ctx} {β : Nat → Value} {S : Sd} {a : Act} {w : World} (h : StB C β S a w) {v v' : V} (ha : ArgE S.H v v') {u : Value} (hu : RepV w (Mut C.M0 β S.H) β S.H v u) : RepV w (Mut C.M0 β S.H) β S.H v' u := by
  cases ha with
  | own hl => exact (ToD.own hl).rep h hu
  | nils sz => exact (ToD.nils sz).rep h hu
  | same => exact hu
theorem ArgsE.rep {C : Ctx} {β : Nat → Value} {S : Sd} {a : Act} {w : World} (h : StB C β S a w) {vs vs' : List V} (ha : ArgsE S.H vs vs') : ∀ {us : List Value}, RepL w (Mut C.M0 β S.H) β S.H vs us → RepL w (Mut C.M0 β S.H) β S.H vs' us := by
  induction ha with
  | nil => intro us h; exact h
  | cons h1 _ ih => intro us hu; obtain ⟨u, r, h2, h3, h4⟩ := hu; exact ⟨u, r, h2, h1.rep h h3, ih h4⟩
inductive ResE (P : Program) (S : Sd) : List ResultVar → List V → Prop
  | nil : ResE P S [] []
  | tmp {t : Tmp} {v v' : V} {rs : List ResultVar} {vs : List V} (hl : S.ev (.tmp t) = some v) (ha : ArgE S.H v v') (h : ResE P S rs vs) : ResE P S (.tmp t :: rs) (v' :: vs)
  | cell {t n ty off : Nat} {cs : List V} {v v' : V} {rs : List ResultVar} {vs : List V} [ht : TCell P ty] (hl : S.ev (.tmp t) = some (.ptr n off)) (hb : look n S.H = some (.box cs)) (hc : cs[off]? = some v) (ha : ArgE S.H v v') (h : ResE P S rs vs) : ResE P S (.cell t ty :: rs) (v' :: vs)
  | cells {t n ty off m : Nat} {cs cs' : List V} {ds : List D} {rs : List ResultVar} {vs : List V} [ht : TAgg P ty m] (hl : S.ev (.tmp t) = some (.ptr n off)) (hb : look n S.H = some (.box cs)) (hc : Cut cs off m cs') (ha : ToDs S.H cs' ds) (hn : ds.all D.scalar = true) (h : ResE P S rs vs) : ResE P S (.cell t ty :: rs) (.d (.agg ds) :: vs)
theorem resE_run {P : Program} {C : Ctx} {β : Nat → Value} {S : Sd} {a : Act} {w : World} (h : StB C β S a w) {rs : List ResultVar} {vs : List V} (hr : ResE P S rs vs) :
    ∃ us : List Value, (rs.mapM fun | .tmp t => pure (a.tmps.getD t undef) | .cell c t => do loadVar t (← asAddr (a.tmps.getD c undef)) : Sem (List Value)).run P w = .ok us w ∧ RepL w (Mut C.M0 β S.H) β S.H vs us := by
  induction hr with
  | nil => exact ⟨[], rfl, rfl⟩
  | @tmp t v v' rs vs hl ha hr ih =>
    obtain ⟨us, h1, h2⟩ := ih
    have h5 : RepV w (Mut C.M0 β S.H) β S.H v (a.tmps.getD t undef) := h.ev hl rfl
    refine ⟨a.tmps.getD t undef :: us, ?_, ⟨_, us, rfl, ha.rep h h5, h2⟩⟩
    simp only [List.mapM_cons, Sem.run_bind, Sem.run_pure, Result.andThen_ok, h1]
  | @cell t n ty off cs v v' rs vs ht hl hb hc ha hr ih =>
    obtain ⟨us, h1, h2⟩ := ih
    obtain ⟨x, h4, h5⟩ := (q_load_box (t := ty) (E := ⟨P, C, none⟩) (S := S) (dst := none) (ty := 0) (pos := "") (af := #[]) (gd := none) (x := .tmp t) hl hb hc).out β a w h
    obtain ⟨b, _, _, _, h6, _⟩ := h.boxAt (x := .tmp t) hl hb
    have h7 := run_load_var h6 (h4 w (Grows.refl w))
    refine ⟨x :: us, ?_, ⟨x, us, rfl, ha.rep h h5, h2⟩⟩
    simp only [List.mapM_cons, Sem.run_bind] at h7 ⊢
    rw [h7]
    simp only [Result.andThen_ok, h1, Sem.run_pure]
  | @cells t n ty off m cs cs' ds rs vs ht hl hb hc ha hn hr ih =>
    obtain ⟨us, h1, h2⟩ := ih
    obtain ⟨x, h4, h5⟩ := (q_load_boxs (t := ty) (E := ⟨P, C, none⟩) (S := S) (dst := none) (ty := 0) (pos := "") (af := #[]) (gd := none) (x := .tmp t) hl hb hc ha hn).out β a w h
    obtain ⟨b, _, _, _, h6, _⟩ := h.boxAt (x := .tmp t) hl hb
    have h7 := run_load_var h6 (h4 w (Grows.refl w))
    refine ⟨x :: us, ?_, ⟨x, us, rfl, h5, h2⟩⟩
    simp only [List.mapM_cons, Sem.run_bind] at h7 ⊢
    rw [h7]
    simp only [Result.andThen_ok, h1, Sem.run_pure]
structure EndsE (P : Program) (rs : List ResultVar) (H0 : List (Nat × Ob)) (R : V → List (Nat × Ob) → Prop) (e : Exit) (S : Sd) : Prop where
  how : e = .ret ∨ e = .normal
  res : ∃ vs H1, ResE P S rs vs ∧ Sub S.H H1 ∧ endOk H0 H1 (oneOf vs) = true ∧ R (oneOf vs) H1
theorem noPanic_endsE {P : Program} {rs : List ResultVar} {H0 : List (Nat × Ob)} {R : V → List (Nat × Ob) → Prop} : noPanic (EndsE P rs H0 R) := fun c S h => by rcases h.how with h | h <;> cases h
theorem fnE_intro {P : Program} {gl : List (Nat × List D)} {f : FuncId} {fn : Func} {c : Code} {args : List V} {H0 : List (Nat × Ob)} {R : V → List (Nat × Ob) → Prop} {nt : Nat} {rs : Array ResultVar} (hf : P.funcs[f]? = some fn) (hb' : fn.body = some c) (hn : fn.ntmps = nt) (hr : fn.results = rs) (hle : args.length ≤ nt) (hs : nt ≤ 100000)
    (h : ∀ w M E b0, TC ⟨P, ⟨nt, E, w, M, H0.map (·.1), b0, fun _ => .nilFunc, []⟩, none⟩ c (EndsE P rs.toList H0 R) ⟨slots args, H0, gl⟩) : FnE P gl f args H0 R := fun w M β us hlow hargs hobs hgl => by
  have hlen := hargs.length
  refine calls_of_tc hf hb' (h w M (blks β H0) β) ?_ fun e S' β1 a' w' hB hq => ⟨hq.how, ?_⟩
  · refine ⟨β, ⟨?_, hs, ⟨[], rfl, List.nodup_nil, (fun D h => by cases h)⟩, (fun p hp => by cases hp), ?_, hobs.obs, hobs.apart, (fun n ob b hl hb' => .inl (mem_blks.2 ⟨n, ob, hl, hb'⟩)), hgl, Frm.refl _ _, hobs.out, hlow, (fun n hn => rfl), (fun n hn => ?_)⟩⟩
    · simp [hn]; omega
    · intro t v hl
      dsimp only at hl ⊢
      rw [hn]
      exact env_args hargs hle hs hl
    · obtain ⟨p, h1, rfl⟩ := List.mem_map.1 hn
      obtain ⟨ob, h2⟩ := look_some h1
      simp [h2]
  · obtain ⟨_, vs, H1, hres, hsub, hok, hR⟩ := hq
    obtain ⟨us', h3, h4⟩ := resE_run hB hres
    have hok' := hok
    unfold endOk at hok'
    simp only [Bool.and_eq_true] at hok'
    obtain ⟨⟨⟨k1, k2⟩, k3⟩, k5⟩ := hok'
    have hB1 := hB.weak (S' := { S' with H := H1 }) (fun _ _ h => h) (fun n ob h => hsub.look h) (fun _ _ h => h) (fun n hn => by
      obtain ⟨p, h1, rfl⟩ := List.mem_map.1 hn
      exact List.all_eq_true.1 k1 p h1)
    have hN : ∀ n, (look n H0).isSome = true → β1 n = β n := fun n hn => hB.fix n (by
      cases hl : look n H0 with
      | none => rw [hl] at hn; cases hn
      | some ob => exact List.mem_map.2 ⟨_, look_in hl, rfl⟩)
    have hrep := rep_oneOf h4
    have hk : Keeps w' (Mut M β1 S'.H) w' (Mut M β1 H1) := Keeps.weak fun b o hm => by
      rcases hm with hm | ⟨n, ob, h5, h6, h7⟩
      · exact .inl hm
      · exact .inr ⟨n, ob, hsub.look h5, h6, h7⟩
    refine ⟨_, run_results hr h3, oneOf vs, _, H1, β1, hR, hok, rfl, hB.frame, hN, fun n b h5 h6 h7 => ?_, ⟨hB1.obs, hB1.apart, hB1.out⟩, RepV.keep hk (fun _ => rfl) (fun n e sz sh xs k hl => ⟨sh, xs, hsub.look hl⟩) _ _ hrep⟩
    cases hl : look n H1 with
    | none => rw [hl] at h6; cases h6
    | some ob =>
      rcases hB1.place n ob b hl h7 with h8 | h8
      · exfalso
        obtain ⟨m, ob', h9, h10⟩ := mem_blks.1 h8
        have hm1 := List.all_eq_true.1 k1 _ (look_in h9)
        simp only [keyIn, Option.isSome_iff_exists] at hm1
        obtain ⟨ob1, hm1⟩ := hm1
        have hne : n ≠ m := by rintro rfl; rw [h5] at h9; cases h9
        refine hB1.apart n m b ob ob1 hne hl hm1 h7 ?_
        rw [hN m (by rw [h9]; rfl)]
        exact h10
      · exact h8
section
variable {E : Set} {Q : Exit → Sd → Prop} {S : Sd} {ops : Array Oper} {draw : Bool} {rest : Todo} {way : Way3} {ty : TypeId} {pos : String} {af : Array Edge} {gd : Option (Nat × Bool)}
theorem tr_calls {d : Nat} {o : Oper} (hdst : o.dst = some d) (hd : d < E.C.nt) (hg : S.gd ops o = some true) (hdf : isDefer o = false) (hw : isBar draw way = true)
    (hrun : ∀ β a w, StB E.C β S a w → ∃ f us, (execOp a.eval o).run E.P w = .ok (.enter f us) w ∧ Calls E.P f us w fun e w' => ∃ x S' β' v, e = .returned x ∧ StB E.C β' S' a w' ∧ RepV w' (Mut E.C.M0 β' S'.H) β' S'.H v x ∧ TR E draw ops Q rest (S'.put d v)) :
    TR E draw ops Q (.step o way rest) S := fun a w hS => by
  have hS0 := hS
  have key : ∀ w1, Grows w w1 → ∀ K : Act → World → Prop, (∀ S2 a2 w2, St E.C S2 a2 w2 → TR E draw ops Q rest S2 → K a2 w2) → o.wp E.P a w1 K (Qof E.C Q) := fun w1 g K hK => by
    obtain ⟨β, hB⟩ := hS.later g
    obtain ⟨f, us, h1, h2⟩ := hrun β a w1 hB
    unfold Oper.wp
    rw [h1, Oper.upon_enter]
    refine h2.mono ?_
    rintro e w2 ⟨x, S', β', v, rfl, h3, h4, h5⟩
    refine hK (S'.put d v) _ _ ?_ h5
    rw [hdst]
    exact ⟨β', h3.put hd h4⟩
  cases draw with
  | true =>
    dsimp only
    cases way with
    | pure => cases hw
    | quiet => cases hw
    | grow => cases hw
    | bar =>
      simp only [wpMix3]
      intro n
      rw [Sd.gd_sound hS0 hg, if_pos rfl]
      exact key n.w n.grows _ fun S2 a2 w2 hs2 h => h _ _ hs2
  | false => exact listIn_of_wp hS0 hg hdf fun K hK => key w (Grows.refl w) K fun S2 a2 w2 hs2 h => hK _ _ (h _ _ hs2)
theorem run_callV {P : Program} {f : Nat} (hf : TFun P f) (a : Act) {fx : Operand} {fs gs : List Value} (he : a.eval fx = .func (.func f) fs.toArray gs.toArray) (xs : List Operand) (ats : Array TypeId) (dst : Option Tmp) (w : World) :
    (execOp a.eval ⟨dst, .call { callee := .value fx, args := xs.toArray, argTypes := ats }, ty, pos, af, gd⟩).run P w = .ok (.enter f (fs ++ xs.map a.eval ++ gs).toArray) w := by
  have := hf.ok
  unfold callOk at this
  cases hfn : P.funcs[f]? with
  | none => rw [hfn] at this; cases this
  | some fn =>
    rw [hfn] at this
    simp only [Bool.and_eq_true, Bool.not_eq_true'] at this
    have h2 : ¬ fn.name = "runtime.NumGoroutine" := by simpa using this.2
    cases hb : fn.body with
    | none => rw [hb] at this; cases this.1
    | some c => simp [execOp, resolve, he, Deferred.ofValue, invoke, callFunc, hfn, hb, h2]
theorem RepL.app {w : World} {M : Nat → Nat → Prop} {β : Nat → Value} {H : List (Nat × Ob)} : ∀ {xs : List V} {us : List Value}, RepL w M β H xs us → ∀ {ys : List V} {vs : List Value}, RepL w M β H ys vs → RepL w M β H (xs ++ ys) (us ++ vs)
  | [], _, h, _, _, h' => by simp only [RepL] at h; subst h; exact h'
  | x :: xs, _, h, _, _, h' => by
    obtain ⟨v, r, rfl, h2, h3⟩ := h
    exact ⟨v, _, rfl, h2, RepL.app h3 h'⟩
theorem look_app (n : Nat) (H1 : List (Nat × Ob)) (H : List (Nat × Ob)) : look n (H1 ++ H) = match look n H1 with | some ob => some ob | none => look n H := by
  induction H1 with
  | nil => rfl
  | cons p H1 ih =>
    rw [List.cons_append, show p = (p.1, p.2) from rfl, look_cons, look_cons, ih]
    split <;> rfl
def freshNew (S : Sd) (H0 H1 : List (Nat × Ob)) : Bool := H1.all fun p => keyIn H0 p.1 || S.fresh p.1
def subH (H0 H : List (Nat × Ob)) : Prop := ∀ n ob, look n H0 = some ob → look n H = some ob
theorem StB.called {C : Ctx} {β β1 : Nat → Value} {a : Act} {w w' : World} (h : StB C β S a w) {H0 H1 : List (Nat × Ob)} (hsub : subH H0 S.H) (hwm : wholeMut H0 = true) {M : Nat → Nat → Prop} (hM : M = fun b o => C.M0 b o ∨ ∃ m ob, look m S.H = some ob ∧ look m H0 = none ∧ hb (β m) = some b ∧ ob.mut o) {v : V}
    (hok : endOk H0 H1 v = true) (hfr : Frm (blks β H0) w w') (hβ : ∀ n, (look n H0).isSome = true → β1 n = β n) (hnew : ∀ n b, look n H0 = none → (look n H1).isSome = true → hb (β1 n) = some b → w.heap.size ≤ b) (ho : Obs w' M β1 H1) (hf : freshNew S H0 H1 = true) {x : Value} (hv : RepV w' (Mut M β1 H1) β1 H1 v x) :
    ∃ β', StB C β' { S with H := H1 ++ S.H } a w' ∧ RepV w' (Mut C.M0 β' (H1 ++ S.H)) β' (H1 ++ S.H) v x := by
  subst hM
  unfold endOk at hok
  simp only [Bool.and_eq_true] at hok
  obtain ⟨⟨⟨k1, k2⟩, k3⟩, k5⟩ := hok
  let β' : Nat → Value := fun n => if (look n H1).isSome then β1 n else β n
  have b1 : ∀ n ob, look n H1 = some ob → β' n = β1 n := fun n ob hl => by simp [β', hl]
  have b0 : ∀ n, look n H1 = none → β' n = β n := fun n hl => by simp [β', hl]
  -- a name of the state that is new in H1 is none
  have hin : ∀ n, (look n S.H).isSome = true → (look n H1).isSome = true → (look n H0).isSome = true := fun n h1 h2 => by
    cases hl : look n H1 with
    | none => rw [hl] at h2; cases h2
    | some ob =>
      have := List.all_eq_true.1 hf _ (look_in hl)
      simp only [Bool.or_eq_true] at this
      rcases this with this | this
      · exact this
      · rw [Sd.fresh_none this] at h1; cases h1
  have h01 : ∀ n, (look n H0).isSome = true → (look n H1).isSome = true := fun n h1 => by
    cases hl : look n H0 with
    | none => rw [hl] at h1; cases h1
    | some ob => exact List.all_eq_true.1 k1 _ (look_in hl)
  have bsame : ∀ n, (look n S.H).isSome = true → β' n = β n := fun n hn => by
    cases hl : look n H1 with
    | none => exact b0 n hl
    | some ob => rw [b1 n ob hl]; exact hβ n (hin n hn (by rw [hl]; rfl))
  -- what may be written afterwards
  have mut' : ∀ b o, Mut C.M0 β' (H1 ++ S.H) b o ↔ Mut (fun b o => C.M0 b o ∨ ∃ m ob, look m S.H = some ob ∧ look m H0 = none ∧ hb (β m) = some b ∧ ob.mut o) β1 H1 b o := fun b o => by
    constructor
    · rintro (hm | ⟨n, ob, h1, h2, h3⟩)
      · exact .inl (.inl hm)
      · rw [look_app] at h1
        cases hl : look n H1 with
        | some ob1 =>
          rw [hl] at h1
          cases h1
          exact .inr ⟨n, ob, hl, by rw [← b1 n ob hl]; exact h2, h3⟩
        | none =>
          rw [hl] at h1
          rw [b0 n hl] at h2
          refine .inl (.inr ⟨n, ob, h1, ?_, h2, h3⟩)
          cases h0 : look n H0 with
          | none => rfl
          | some _ => have := h01 n (by rw [h0]; rfl); rw [hl] at this; cases this
    · rintro ((hm | ⟨m, ob, h1, h2, h3, h4⟩) | ⟨n, ob, h1, h2, h3⟩)
      · exact .inl hm
      · cases hl : look m H1 with
        | some ob1 => have := hin m (by rw [h1]; rfl) (by rw [hl]; rfl); rw [h2] at this; cases this
        | none => exact .inr ⟨m, ob, by rw [look_app, hl]; exact h1, by rw [b0 m hl]; exact h3, h4⟩
      · exact .inr ⟨n, ob, by rw [look_app, h1], by rw [b1 n ob h1]; exact h2, h3⟩
  have hmut : Mut C.M0 β' (H1 ++ S.H) = Mut (fun b o => C.M0 b o ∨ ∃ m ob, look m S.H = some ob ∧ look m H0 = none ∧ hb (β m) = some b ∧ ob.mut o) β1 H1 := by
    funext b o
    exact propext (mut' b o)
  -- what stays
  have hblk : ∀ b, b < w.heap.size → b ∉ blks β H0 → w'.heap[b]? = w.heap[b]? := fun b hb' hn => hfr.block b hb' hn
  have hnb : ∀ b o, ¬ Mut C.M0 β S.H b o → b ∉ blks β H0 := fun b o hm hb' => by
    obtain ⟨n, ob, h1, h2⟩ := mem_blks.1 hb'
    exact hm (.inr ⟨n, ob, hsub n ob h1, h2, wholeMut_mut hwm h1 o⟩)
  have hmm : ∀ b o, b < w.heap.size → ¬ Mut C.M0 β S.H b o → ¬ Mut C.M0 β' (H1 ++ S.H) b o := fun b o hlt hm hm' => by
    rcases (mut' b o).1 hm' with (h1 | ⟨m, ob, h1, h2, h3, h4⟩) | ⟨n, ob, h1, h2, h3⟩
    · exact hm (.inl h1)
    · exact hm (.inr ⟨m, ob, h1, h3, h4⟩)
    · cases h0 : look n H0 with
      | none => have := hnew n b h0 (by rw [h1]; rfl) h2; omega
      | some ob0 =>
        rw [hβ n (by rw [h0]; rfl)] at h2
        exact hnb b o hm (mem_blks.2 ⟨n, ob0, h0, h2⟩)
  have kp : Keeps w (Mut C.M0 β S.H) w' (Mut C.M0 β' (H1 ++ S.H)) := by
    refine ⟨fun b o y h1 h2 => ?_, fun b ob _ h1 h2 => ?_⟩
    · have hlt : b < w.heap.size := World.block_lt_of_cell? w ⟨b, o, none⟩ h2
      refine ⟨hmm b o hlt h1, ?_⟩
      rw [← h2]
      exact World.cell?_of_block (hblk b hlt (hnb b o h1))
    · have hlt := (Array.getElem?_eq_some_iff.1 h2).1
      exact ⟨fun o => hmm b o hlt (h1 o), (hblk b hlt (hnb b 0 (h1 0))).trans h2⟩
  -- names
  have hrows : ∀ n, (look n S.H).isSome = true → V.SameNames β β' S.H (H1 ++ S.H) n := fun n hn => by
    refine ⟨bsame n hn, fun e sz sh xs k hl => ?_⟩
    rw [look_app] at hl
    cases h1 : look n H1 with
    | none => rw [h1] at hl; exact ⟨sh, xs, hl⟩
    | some ob =>
      rw [h1] at hl
      cases hl
      have := List.all_eq_true.1 k2 _ (look_in h1)
      dsimp only at this
      cases h0 : look n H0 with
      | none => have := hin n hn (by rw [h1]; rfl); rw [h0] at this; cases this
      | some ob0 =>
        rw [h0] at this
        cases ob0 with
        | row e' sz' sh' xs' k' =>
          simp only [Bool.and_eq_true] at this
          obtain ⟨⟨q1, q2⟩, q3⟩ := this
          obtain rfl := Nat.eq_of_beq_eq_true q1
          obtain rfl := Nat.eq_of_beq_eq_true q2
          obtain rfl := Nat.eq_of_beq_eq_true q3
          exact ⟨sh', xs', hsub n _ h0⟩
        | _ => cases this
  have hfresh : ∀ n, look n S.H = none → (look n H1).isSome = true → S.fresh n = true := fun n h1 h2 => by
    cases hl : look n H1 with
    | none => rw [hl] at h2; cases h2
    | some ob =>
      have := List.all_eq_true.1 hf _ (look_in hl)
      simp only [Bool.or_eq_true] at this
      rcases this with this | this
      · simp only [keyIn, Option.isSome_iff_exists] at this
        obtain ⟨ob0, h0⟩ := this
        rw [hsub n ob0 h0] at h1
        cases h1
      · exact this
  have hsame : ∀ n, (S.fresh n = true → False) → V.SameNames β β' S.H (H1 ++ S.H) n := fun n hn => by
    cases hl : look n S.H with
    | some ob => exact hrows n (by rw [hl]; rfl)
    | none =>
      cases h1 : look n H1 with
      | some ob => exact absurd (hfresh n hl (by rw [h1]; rfl)) hn
      | none =>
        refine ⟨b0 n h1, fun e sz sh xs k h2 => ?_⟩
        rw [look_app, h1, hl] at h2
        cases h2
  have hsys : ∀ D o, w.heap[D]? = some o → sysO o = true → w'.heap[D]? = some o := fun D o ho' hs' => by
    refine (hblk D (Array.getElem?_eq_some_iff.1 ho').1 (fun hb' => ?_)).trans ho'
    obtain ⟨n, ob, h1, h2⟩ := mem_blks.1 hb'
    exact (h.obs n ob (hsub n ob h1)).notSys ho' hs' h2
  obtain ⟨Ds, hd1, hd2, hd3⟩ := h.defers
  -- the new names' values
  have hclosed : ∀ (y : V) (u : Value), y.within (keyIn H1) = true → RepV w' (Mut (fun b o => C.M0 b o ∨ ∃ m ob, look m S.H = some ob ∧ look m H0 = none ∧ hb (β m) = some b ∧ ob.mut o) β1 H1) β1 H1 y u → RepV w' (Mut C.M0 β' (H1 ++ S.H)) β' (H1 ++ S.H) y u := fun y u hy hu => by
    rw [hmut]
    refine RepV.gen (Keeps.refl _ _) y u (fun n hn => ?_) hu
    have := V.within_says hy n hn
    simp only [keyIn, Option.isSome_iff_exists] at this
    obtain ⟨ob, hl⟩ := this
    refine ⟨b1 n ob hl, fun e sz sh xs k h2 => ?_⟩
    rw [look_app, hl] at h2
    cases h2
    exact ⟨sh, xs, hl⟩
  have hclosedL : ∀ (ys : List V) (us : List Value), withinL (keyIn H1) ys = true → RepL w' (Mut (fun b o => C.M0 b o ∨ ∃ m ob, look m S.H = some ob ∧ look m H0 = none ∧ hb (β m) = some b ∧ ob.mut o) β1 H1) β1 H1 ys us → RepL w' (Mut C.M0 β' (H1 ++ S.H)) β' (H1 ++ S.H) ys us := fun ys => by
    induction ys with
    | nil => intro us _ h; exact h
    | cons y ys ih =>
      intro us hy hu
      simp only [withinL, Bool.and_eq_true] at hy
      obtain ⟨u, r, rfl, h1, h2⟩ := hu
      exact ⟨u, r, rfl, hclosed y u hy.1 h1, ih r hy.2 h2⟩
  refine ⟨β', ⟨h.size, h.small, ⟨Ds, hd1, hd2, fun D hD => ⟨hsys D _ (hd3 D hD).1 rfl, (hd3 D hD).2⟩⟩, fun p hp => ⟨hsys _ _ (h.sys p hp).1 (h.sys p hp).2.1, (h.sys p hp).2⟩, fun t y hl => ?_, fun n ob hl => ?_, fun n m b ob ob' hne h1 h2 h3 => ?_, fun n ob b hl hb' => ?_, fun q cs hl => (h.glob q cs hl).keep kp, ?_, fun n ob b o hl hb' hm => ?_, h.low, fun n hn => ?_, fun n hn => ?_⟩, hclosed v x k5 hv⟩
  · obtain ⟨u, h1, h2⟩ := h.env t y hl
    refine ⟨u, h1, RepV.gen kp y u (fun n hn => hsame n fun hfr' => ?_) h2⟩
    simp only [Sd.fresh, Bool.and_eq_true] at hfr'
    rw [noneSays_look hfr'.1 hl] at hn
    cases hn
  · dsimp only at hl
    rw [look_app] at hl
    cases h1 : look n H1 with
    | some ob1 =>
      rw [h1] at hl
      cases hl
      have h2 := ho.obs n ob h1
      have h3 := List.all_eq_true.1 k3 _ (look_in h1)
      show RepO w' (Mut C.M0 β' (H1 ++ S.H)) β' (H1 ++ S.H) (β' n) ob
      rw [b1 n ob h1, hmut]
      refine RepO.keep (Keeps.refl _ _) (fun _ _ => rfl) (fun cs vs e2 hL => ?_) h2
      rw [← hmut]
      rcases e2 with rfl | rfl <;> exact hclosedL cs vs h3 hL
    | none =>
      rw [h1] at hl
      show RepO w' (Mut C.M0 β' (H1 ++ S.H)) β' (H1 ++ S.H) (β' n) ob
      rw [b0 n h1]
      refine RepO.keep kp (fun b hb' => ?_) (fun cs vs e2 hL => ?_) (h.obs n ob hl)
      · refine hblk b (h.old hl hb') (fun hm => ?_)
        obtain ⟨m, ob', h2, h3⟩ := mem_blks.1 hm
        have hne : n ≠ m := by
          rintro rfl
          have := h01 n (by rw [h2]; rfl)
          rw [h1] at this
          cases this
        exact h.apart n m b ob ob' hne hl (hsub m ob' h2) hb' h3
      · have hs : ∀ m, saysL m cs = true → V.SameNames β β' S.H (H1 ++ S.H) m := fun m hm => hsame m fun hfr' => by
          simp only [Sd.fresh, Bool.and_eq_true] at hfr'
          have := (noneSaysO_look hfr'.2 hl).2
          rcases e2 with rfl | rfl <;> (simp only [Ob.says] at this; rw [hm] at this; cases this)
        exact RepL.gen kp cs vs hs hL
  · dsimp only at h1 h2
    rw [look_app] at h1 h2
    cases q1 : look n H1 with
    | some o1 =>
      rw [q1] at h1
      rw [b1 n o1 q1] at h3
      cases q2 : look m H1 with
      | some o2 =>
        rw [q2] at h2
        rw [b1 m o2 q2]
        exact ho.apart n m b o1 o2 hne q1 q2 h3
      | none =>
        rw [q2] at h2
        rw [b0 m q2]
        intro h4
        cases q0 : look n H0 with
        | none =>
          have := hnew n b q0 (by rw [q1]; rfl) h3
          have := h.old h2 h4
          omega
        | some o0 =>
          rw [hβ n (by rw [q0]; rfl)] at h3
          exact h.apart n m b o0 ob' hne (hsub n o0 q0) h2 h3 h4
    | none =>
      rw [q1] at h1
      rw [b0 n q1] at h3
      cases q2 : look m H1 with
      | some o2 =>
        rw [q2] at h2
        rw [b1 m o2 q2]
        intro h4
        cases q0 : look m H0 with
        | none =>
          have := hnew m b q0 (by rw [q2]; rfl) h4
          have := h.old h1 h3
          omega
        | some o0 =>
          rw [hβ m (by rw [q0]; rfl)] at h4
          exact h.apart m n b o0 ob (Ne.symm hne) (hsub m o0 q0) h1 h4 h3
      | none =>
        rw [q2] at h2
        rw [b0 m q2]
        exact h.apart n m b ob ob' hne h1 h2 h3
  · dsimp only at hl
    rw [look_app] at hl
    cases q1 : look n H1 with
    | some o1 =>
      rw [b1 n o1 q1] at hb'
      cases q0 : look n H0 with
      | none =>
        have := hnew n b q0 (by rw [q1]; rfl) hb'
        exact .inr (Nat.le_trans h.frame.size this)
      | some o0 =>
        rw [hβ n (by rw [q0]; rfl)] at hb'
        exact h.place n o0 b (hsub n o0 q0) hb'
    | none =>
      rw [q1] at hl
      rw [b0 n q1] at hb'
      exact h.place n ob b hl hb'
  · refine ⟨hfr.os.trans h.frame.os, hfr.tape.trans h.frame.tape, hfr.output.trans h.frame.output, Nat.le_trans h.frame.size hfr.size, fun i hi he => ?_⟩
    refine (hblk i (Nat.lt_of_lt_of_le hi h.frame.size) (fun hm => ?_)).trans (h.frame.block i hi he)
    obtain ⟨n, ob, h1, h2⟩ := mem_blks.1 hm
    rcases h.place n ob i (hsub n ob h1) h2 with h3 | h3
    · exact he h3
    · omega
  · dsimp only at hl
    rw [look_app] at hl
    cases q1 : look n H1 with
    | some o1 =>
      rw [b1 n o1 q1] at hb'
      exact ho.out n o1 b o q1 hb' (.inl hm)
    | none =>
      rw [q1] at hl
      rw [b0 n q1] at hb'
      exact h.out n ob b o hl hb' hm
  · rw [bsame n (h.has n hn)]
    exact h.fix n hn
  · dsimp only
    rw [look_app]
    cases q1 : look n H1 with
    | some o1 => rfl
    | none => exact h.has n hn
inductive SubH (H : List (Nat × Ob)) : List (Nat × Ob) → Prop
  | nil : SubH H []
  | cons {n : Nat} {ob : Ob} {r : List (Nat × Ob)} (h : look n H = some ob) (k : SubH H r) : SubH H ((n, ob) :: r)
theorem SubH.sub {H H0 : List (Nat × Ob)} (h : SubH H H0) : subH H0 H := by
  induction h with
  | nil => intro n ob h; cases h
  | cons h1 _ ih =>
    intro n ob hl
    rw [look_cons] at hl
    split at hl
    · rename_i e; subst e; cases hl; exact h1
    · exact ih n ob hl
variable {env : List (Nat × V)} {H : List (Nat × Ob)} {gl : List (Nat × List D)} {d : Nat}
theorem s_callE {f : Nat} {fx : Operand} {xs : List Operand} {ats : Array TypeId} {fs gs vs args : List V} {H0 : List (Nat × Ob)} {R : V → List (Nat × Ob) → Prop} [hf : TFun E.P f] (hfx : Sd.ev ⟨env, H, gl⟩ fx = some (.clo (.func f) fs gs)) (hof : okOp fx = true) (hx : Evs ⟨env, H, gl⟩ xs vs) (ha : ArgsE H (fs ++ vs ++ gs) args)
    (hc : FnE E.P gl f args H0 R) (hs : SubH H H0) (hwm : wholeMut H0 = true) (hd : d < E.C.nt) (hg : Sd.gd ⟨env, H, gl⟩ ops ⟨some d, .call { callee := .value fx, args := xs.toArray, argTypes := ats }, ty, pos, af, gd⟩ = some true) (hw : isBar draw way = true)
    (h : ∀ v H1, R v H1 → freshNew ⟨env, H, gl⟩ H0 H1 = true ∧ TR E draw ops Q rest ⟨(d, v) :: env, H1 ++ H, gl⟩) : TR E draw ops Q (.step ⟨some d, .call { callee := .value fx, args := xs.toArray, argTypes := ats }, ty, pos, af, gd⟩ way rest) ⟨env, H, gl⟩ := by
  refine tr_calls rfl hd hg rfl hw fun β a w hB => ?_
  obtain ⟨fs', gs', h1, h2, h3⟩ := hB.ev hfx hof
  refine ⟨f, _, run_callV hf a h1 xs ats (some d) w, ?_⟩
  have hsub := hs.sub
  let M : Nat → Nat → Prop := fun b o => E.C.M0 b o ∨ ∃ m ob, look m H = some ob ∧ look m H0 = none ∧ hb (β m) = some b ∧ ob.mut o
  have hMut : Mut M β H0 = Mut E.C.M0 β H := by
    funext b o
    apply propext
    constructor
    · rintro ((hm | ⟨m, ob, q1, _, q2, q3⟩) | ⟨n, ob, q1, q2, q3⟩)
      · exact .inl hm
      · exact .inr ⟨m, ob, q1, q2, q3⟩
      · exact .inr ⟨n, ob, hsub n ob q1, q2, q3⟩
    · rintro (hm | ⟨n, ob, q1, q2, q3⟩)
      · exact .inl (.inl hm)
      · cases h0 : look n H0 with
        | none => exact .inl (.inr ⟨n, ob, q1, h0, q2, q3⟩)
        | some ob0 =>
          have := hsub n ob0 h0
          rw [q1] at this
          cases this
          exact .inr ⟨n, ob, h0, q2, q3⟩
  have hrow : ∀ n e sz sh xs k, look n H0 = some (.row e sz sh xs k) → ∃ sh' xs', look n H = some (.row e sz sh' xs' k) := fun n e sz sh xs k hl => ⟨sh, xs, hsub n _ hl⟩
  have hargs := ha.rep hB ((RepL.app (RepL.app h2 (hx.rep hB)) h3))
  refine (hc w M β _ ?_ ?_ ⟨fun n ob hl => ?_, fun n m b ob ob' hne q1 q2 => hB.apart n m b ob ob' hne (hsub n ob q1) (hsub m ob' q2), fun n ob b o hl hb' hm => ?_⟩ ?_).mono ?_
  · rintro b o (hm | ⟨m, ob, q1, _, q2, _⟩)
    · have := hB.low b o hm
      have := hB.frame.size
      omega
    · exact hB.old q1 q2
  · rw [hMut]
    exact RepL.keep (Keeps.refl _ _) (fun _ => rfl) hrow _ _ hargs
  · rw [hMut]
    exact RepO.keep (Keeps.refl _ _) (fun _ _ => rfl) (fun cs vs _ hL => RepL.keep (Keeps.refl _ _) (fun _ => rfl) hrow _ _ hL) (hB.obs n ob (hsub n ob hl))
  · rcases hm with hm | ⟨m, ob', q1, q2, q3, _⟩
    · exact hB.out n ob b o (hsub n ob hl) hb' hm
    · have hne : n ≠ m := by rintro rfl; rw [hl] at q2; cases q2
      exact hB.apart n m b ob ob' hne (hsub n ob hl) q1 hb' q3
  · rw [hMut]
    exact hB.glob
  · rintro e w' ⟨v, x, H1, β1, hR, hok, rfl, hfr, hβ, hnew, ho, hv⟩
    obtain ⟨hf', hT⟩ := h v H1 hR
    obtain ⟨β', hB', hv'⟩ := hB.called hsub hwm rfl hok hfr hβ hnew ho hf' hv
    exact ⟨x, _, β', v, rfl, hB', hv', hT⟩
end
end Go.Proofs.YtcblefmjacofgaaGreatDoor
