/- Parts: D25, D26, D27, D28, D29. -/
import Derived.Test.YtjhbglklcddekaaGreatDoorV10
set_option linter.all false
set_option maxRecDepth 100000
set_option maxHeartbeats 16000000
namespace Go.Proofs.YtjhbglklcddekaaGreatDoor
open Go.RowKit
section
def isBoolC (b : Bool) : Operand → Bool
  | .const (.bool c) => match b, c with
    | true, true => true
    | false, false => true
    | _, _ => false
  | _ => false
def isSlot (t : Nat) : Operand → Bool
  | .tmp s => Nat.beq s t
  | _ => false
theorem isBoolC_iff {b : Bool} {x : Operand} (h : isBoolC b x = true) : x = .const (.bool b) := by
  unfold isBoolC at h
  split at h
  · split at h
    · rfl
    · rfl
    · cases h
  · cases h
theorem isSlot_iff {t : Nat} {x : Operand} (h : isSlot t x = true) : x = .tmp t := by
  unfold isSlot at h
  split at h
  · rw [Nat.eq_of_beq_eq_true h]
  · cases h
def noKey (d : Nat) : List (Nat × V) → Bool
  | [] => true
  | (s, _) :: r => bif Nat.beq s d then false else noKey d r
theorem noKey_iff {d : Nat} : ∀ {l : List (Nat × V)}, noKey d l = true → ∀ v, look d l ≠ some v
  | [], _, _, h => by cases h
  | (s, u) :: r, h, v, h' => by
    rw [look_cons] at h'
    simp only [noKey] at h
    cases hb : Nat.beq s d with
    | true => rw [hb] at h; cases h
    | false =>
      rw [hb] at h
      rw [if_neg (beq_false.1 hb)] at h'
      exact noKey_iff h v h'
def isNilT : Todo → Bool
  | .nil => true
  | _ => false
def hasN (d : Nat) : List Nat → Bool
  | [] => false
  | s :: r => bif Nat.beq s d then true else hasN d r
theorem hasN_iff {d : Nat} : ∀ {l : List Nat}, hasN d l = true ↔ d ∈ l
  | [] => by simp [hasN]
  | s :: r => by
    simp only [hasN, List.mem_cons]
    cases hb : Nat.beq s d with
    | true => simp [Nat.eq_of_beq_eq_true hb]
    | false =>
      have : ¬ d = s := fun e => beq_false.1 hb e.symm
      simp [this, hasN_iff]
def chainT (b : Bool) (ops : Array Oper) (n : Nat) (env : List (Nat × V)) (t' : Nat) : Nat → List Nat → Todo → Bool
  | t, _, .nil => Nat.beq t t'
  | t, dead, .step o _ rest => match o.dst with
    | none => false
    | some d => (noKey d env || (Nat.beq d t' && isNilT rest)) && Nat.blt d n && Nat.blt d 100000 && !hasN d dead && (match o.guard with
      | none => (match o.op with
        | .move x => isSlot t x
        | .assign x => isSlot t x
        | .pick c x y => isSlot t c && (match b with
          | true => isBoolC true x
          | false => isBoolC false y)
        | _ => false) && chainT b ops n env t' d dead rest
      | some (j, want) => (match (nth ops.toList j).bind (·.dst) with
        | some g => hasN g dead || (Nat.beq g t && (match b, want with
          | true, false => true
          | false, true => true
          | _, _ => false))
        | none => false) && (bif Nat.beq d t then false else true) && chainT b ops n env t' t (d :: dead) rest)
  | _, _, .two .. => false
  | _, _, .mid .. => false
  | _, _, .or .. => false
  | _, _, .tail _ => false
section
variable {E : Set} {Q : Exit → Sd → Prop} {ops : Array Oper} {draw : Bool} {H : List (Nat × Ob)} {gl : List (Nat × List D)}
theorem chain_aux (b : Bool) (env : List (Nat × V)) (t' : Nat) (h : TR E draw ops Q .nil ⟨(t', .d (.bool b)) :: env, H, gl⟩) : ∀ (l : Todo) (t : Nat) (dead : List Nat) (env' : List (Nat × V)), chainT b ops E.C.nt env t' t dead l = true → Nat.blt t 100000 = true → look t env' = some (.d (.bool b)) →
    (∀ s ∈ dead, Nat.blt s 100000 = true ∧ look s env' = some (.tup [])) → (∀ s v, look s env = some v → (s ≠ t' ∨ isNilT l = false) → look s env' = some v) → TR E draw ops Q l ⟨env', H, gl⟩
  | .nil, t, dead, env', hc, _, hl, _, ha => fun a w hS => by
    obtain rfl : t = t' := Nat.eq_of_beq_eq_true hc
    obtain ⟨β, hB⟩ := hS
    refine h a w ⟨β, hB.weak (fun s v hs => ?_) (fun _ _ h => h) (fun _ _ h => h) (fun n hn => hB.has n hn)⟩
    dsimp only at hs
    rw [look_cons] at hs
    split at hs
    · rename_i e; subst e; cases hs; exact hl
    · rename_i e; exact ha s v hs (.inl fun e' => e e'.symm)
  | .step ⟨dst, op, ty, pos, af, gd⟩ way rest, t, dead, env', hc, ht, hl, hdd, ha => by
    have hev : Sd.ev ⟨env', H, gl⟩ (.tmp t) = some (.d (.bool b)) := by simp only [Sd.ev, ht, cond_true]; exact hl
    cases dst with
    | none => simp [chainT] at hc
    | some d =>
      simp only [chainT, Bool.and_eq_true] at hc
      obtain ⟨⟨⟨⟨hk, hn⟩, hm⟩, hnd⟩, hc⟩ := hc
      have hnd' : d ∉ dead := fun hd => by rw [hasN_iff.2 hd] at hnd; cases hnd
      have hadd : ∀ u, ∀ s v, look s env = some v → (s ≠ t' ∨ isNilT rest = false) → look s ((d, u) :: env') = some v := fun u s v hs hor => by
        have hsd : d ≠ s := fun e => by
          subst e
          simp only [Bool.or_eq_true, Bool.and_eq_true] at hk
          rcases hk with hk | hk
          · exact noKey_iff hk v hs
          · rcases hor with hor | hor
            · exact hor (Nat.eq_of_beq_eq_true hk.1)
            · rw [hk.2] at hor; cases hor
        rw [look_cons, if_neg hsd]
        exact ha s v hs (.inr rfl)
      have hdead : ∀ u, ∀ s ∈ dead, Nat.blt s 100000 = true ∧ look s ((d, u) :: env') = some (.tup []) := fun u s hs => by
        have hsd : d ≠ s := fun e => hnd' (by rw [e]; exact hs)
        refine ⟨(hdd s hs).1, ?_⟩
        rw [look_cons, if_neg hsd]
        exact (hdd s hs).2
      cases gd with
      | none =>
        simp only [Bool.and_eq_true] at hc
        obtain ⟨hop, hc⟩ := hc
        have fin : Swift E ⟨env', H, gl⟩ ⟨some d, op, ty, pos, af, none⟩ (.d (.bool b)) ∧ isDefer ⟨some d, op, ty, pos, af, none⟩ = false := by
          split at hop
          · rw [isSlot_iff hop]
            exact ⟨q_move hev rfl, rfl⟩
          · rw [isSlot_iff hop]
            exact ⟨q_assign hev rfl, rfl⟩
          · simp only [Bool.and_eq_true] at hop
            rw [isSlot_iff hop.1]
            cases b with
            | true => rw [isBoolC_iff hop.2]; exact ⟨q_pick_t hev rfl rfl rfl, rfl⟩
            | false => rw [isBoolC_iff hop.2]; exact ⟨q_pick_f hev rfl rfl rfl, rfl⟩
          · cases hop
        refine tr_still fin.1 rfl (ltd hn) rfl fin.2 ?_
        exact chain_aux b env t' h rest d dead _ hc hm (by rw [look_cons, if_pos rfl]) (hdead _) (hadd _)
      | some g =>
        obtain ⟨j, want⟩ := g
        simp only [Bool.and_eq_true] at hc
        obtain ⟨⟨hg, hd⟩, hc⟩ := hc
        have hdt : d ≠ t := fun e => by subst e; simp at hd
        refine tr_pass rfl (ltd hn) ?_ ?_
        · simp only [Sd.gd]
          cases hj : (nth ops.toList j).bind (·.dst) with
          | none => rw [hj] at hg; cases hg
          | some g =>
            rw [hj] at hg
            simp only [Bool.or_eq_true, Bool.and_eq_true] at hg
            dsimp only
            rcases hg with hg | ⟨hg, hw⟩
            · obtain ⟨q1, q2⟩ := hdd g (hasN_iff.1 hg)
              have : Sd.ev ⟨env', H, gl⟩ (.tmp g) = some (.tup []) := by simp only [Sd.ev, q1, cond_true]; exact q2
              simp only [this]
            · rw [Nat.eq_of_beq_eq_true hg]
              simp only [hev]
              cases b <;> cases want <;> simp at hw ⊢
        · refine chain_aux b env t' h rest t (d :: dead) _ hc ht (by rw [look_cons, if_neg hdt]; exact hl) (fun s hs => ?_) (hadd _)
          rcases List.mem_cons.1 hs with rfl | hs
          · exact ⟨hm, by rw [look_cons, if_pos rfl]⟩
          · exact hdead _ s hs
  | .two .., _, _, _, hc, _, _, _, _ => by simp [chainT] at hc
  | .mid .., _, _, _, hc, _, _, _, _ => by simp [chainT] at hc
  | .or .., _, _, _, hc, _, _, _, _ => by simp [chainT] at hc
  | .tail _, _, _, _, hc, _, _, _, _ => by simp [chainT] at hc
theorem z_short (b : Bool) (t t' : Nat) {l : Todo} {env : List (Nat × V)} (h : TR E draw ops Q .nil ⟨(t', .d (.bool b)) :: env, H, gl⟩) (hl : look t env = some (.d (.bool b)) := by exact rfl) (hc : chainT b ops E.C.nt env t' t [] l = true := by kernel_rfl) (ht : Nat.blt t 100000 = true := by exact rfl) : TR E draw ops Q l ⟨env, H, gl⟩ :=
  chain_aux b env t' h l t [] env hc ht hl (fun s hs => by cases hs) fun _ _ h _ => h
end
end
section
section
variable {E : Set} {Q : Exit → Sd → Prop} {S : Sd} {ops : Array Oper} {ty : TypeId} {pos : String} {af : Array Edge} {gd : Option (Nat × Bool)} {dst : Option Tmp} {o : Oper} {v : V} {F : List Nat} {rest : List (Oper × TW)}
variable {env : List (Nat × V)} {H : List (Nat × Ob)} {gl : List (Nat × List D)} {d : Nat}
theorem load_boxs_at {t n off m : Nat} {x : Operand} {cs vs' : List V} {ds : List D} [ht : TAgg E.P t m] (hx : S.ev x = some (.ptr n off)) (hl : look n S.H = some (.box cs)) (hc : Cut cs off m vs') (hd : ToDs S.H vs' ds)
    (hn : ds.all D.scalar = true) {β : Nat → Hd} {a : Act} {w : World} (h : StB E.C β S a w) : ∃ (b : Nat) (ob : Obj) (u : Value), hb (β n).v = some b ∧ w.heap[b]? = some ob ∧ (∀ w', w'.heap[b]? = some ob → (execOp a.eval ⟨dst, .load t x, ty, pos, af, gd⟩).run E.P w' = .ok (.value u) w') ∧ RepV w (Mut E.C.M0 β S.H) β S.H (.d (.agg ds)) u := by
  obtain ⟨b, vs, t', h1, h2, h3, h4⟩ := h.boxAt hx hl
  obtain ⟨h5, h6⟩ := hc.eq
  have hlen := h4.length
  have hrep : ∀ (k : Nat) (vs' : List V) (ds : List D), ToDs S.H vs' ds → (ds.all D.scalar = true) → (∀ i v, vs'[i]? = some v → cs[k + i]? = some v) → RepA w (Mut E.C.M0 β S.H) ds ((vs.drop k).take vs'.length) := by
    intro k vs' ds hd
    induction hd generalizing k with
    | nil => intro _ _; simp [RepA]
    | @cons v x vs1 xs1 h7 h8 ih =>
      intro hn hcs
      simp only [List.all_cons, Bool.and_eq_true] at hn
      obtain ⟨u, h9, h10⟩ := h4.get (hcs 0 v rfl)
      have h11 := h7.rep h h10
      have h12 := ih (k + 1) hn.2 (fun i v hv => by rw [show k + 1 + i = k + (i + 1) by omega]; exact hcs (i + 1) v (by simpa using hv))
      have hk : k < vs.length := (List.getElem?_eq_some_iff.1 (by simpa using h9)).1
      refine ⟨u, (vs.drop (k + 1)).take vs1.length, ?_, ?_, h11, h12⟩
      · rw [List.drop_eq_getElem_cons hk, List.length_cons, List.take_succ_cons]
        simp only [Nat.add_zero, List.getElem?_eq_getElem hk, Option.some.injEq] at h9
        rw [h9]
      · exact h11.oneOf hn.1
  have h7 := hrep off vs' ds hd hn (fun i v hv => by
    rw [h5, List.getElem?_take, List.getElem?_drop] at hv
    split at hv
    · exact hv
    · cases hv)
  have hle : off + m ≤ vs.length ∨ m = 0 := by
    rw [h5] at h6
    simp at h6
    omega
  refine ⟨b, _, .agg ((vs.drop off).take vs'.length).toArray, by rw [h1]; rfl, h3, fun w' g => ?_, ⟨_, rfl, h7⟩⟩
  have := loadAt_agg (vs := (vs.drop off).take vs'.length) (w := w') (b := b) (o := off) ht (by simp; omega) (fun j v hv => box_cell g (by
    rw [List.getElem?_take, List.getElem?_drop] at hv
    split at hv
    · exact hv
    · cases hv))
  simp [execOp, h2, this]
def TJ (E : Set) (ops : Array Oper) (Q : Exit → Sd → Prop) (F : List Nat) (l : List (Oper × TW)) (S : Sd) : Prop :=
  ∀ (β : Nat → Hd) (a : Act) (w : World) (J : World → Prop), StB E.C β S a w → (∀ w', (∀ n ∈ F, ∀ b o, hb (β n).v = some b → w.heap[b]? = some o → w'.heap[b]? = some o) → J w') → wpTail E.P ops (Qof E.C Q) J l a w
theorem tr_tail {l : List (Oper × TW)} (h : TJ E ops Q [] l S) : TR E true ops Q (.tail l) S := fun a w ⟨β, hB⟩ => h β a w _ hB (fun _ _ => trivial)
theorem tj_nil (h : TR E true ops Q .nil S) : TJ E ops Q F [] S := fun β a w _ hB _ => h a w ⟨β, hB⟩
theorem tj_load {t n off m : Nat} {x : Operand} {cs vs' : List V} {ds : List D} [ht : TAgg E.P t m] (h : TJ E ops Q (n :: F) rest ⟨(d, .d (.agg ds)) :: env, H, gl⟩) (hx : Sd.ev ⟨env, H, gl⟩ x = some (.ptr n off) := by exact rfl) (hl : look n H = some (.box cs) := by exact rfl) (hc : Cut cs off m vs' := by (repeat (first | exact Cut.done _ | apply Cut.take | apply Cut.skip)); fail_if_success intros) (hd' : ToDs H vs' ds := by (repeat (first | exact ToDs.nil | apply ToDs.cons (ToD.d _) | apply ToDs.cons (ToD.nils _) | apply ToDs.cons (ToD.own rfl))); fail_if_success intros)
    (hn : ds.all D.scalar = true := by exact rfl) (hd : d < E.C.nt := by exact ltd rfl) : TJ E ops Q F ((⟨some d, .load t x, ty, pos, af, none⟩, .firm) :: rest) ⟨env, H, gl⟩ := fun β a w J hB hJ => by
  obtain ⟨b, o, u, h1, h2, h3, h4⟩ := load_boxs_at (t := t) (x := x) (S := ⟨env, H, gl⟩) (dst := some d) (ty := ty) (pos := pos) (af := af) (gd := none) hx hl hc hd' hn hB
  simp only [wpTail]
  rw [if_pos (wanted_none rfl _)]
  exact ⟨u, fun w' => w'.heap[b]? = some o, fun w1 w2 g e => grows_heap g e, h2, h3, h β _ w _ (hB.put hd h4) fun w' hw' => ⟨hJ w' fun n' hn' => hw' n' (List.mem_cons_of_mem _ hn'), hw' n List.mem_cons_self b o h1 h2⟩⟩
theorem tj_entry {F : List Nat} {t k e n : Nat} {kk : KeyK} {x y x3 z : Operand} {key u z0 : D} {v : V} {ks vs : List D} {d1 d2 : Nat} {ty1 ty2 ty3 : TypeId} {p1 p2 p3 : String} {af1 af2 af3 : Array Edge} [ht : TMap E.P t k e] [hkk : TKey E.P k kk] [hz0 : TZeroD E.P e z0]
    (hx : Sd.ev ⟨env, H, gl⟩ x = some (.map n)) (hox : okOp x = true) (hl : look n H = some (.map ks vs)) (hy : Sd.ev ⟨env, H, gl⟩ y = some (.d key)) (hoy : okOp y = true) (hx3 : Sd.ev ((⟨env, H, gl⟩ : Sd).put d1 unk |>.put d2 unk) x3 = some (.map n)) (hox3 : okOp x3 = true)
    (hz : Sd.ev ((⟨env, H, gl⟩ : Sd).put d1 unk |>.put d2 unk) z = some v) (hoz : okOp z = true) (hu : ToD H v u) (hc : Comp kk key key) (hd1 : d1 < E.C.nt) (hd2 : d2 < E.C.nt) (hb1 : Nat.blt d1 100000 = true) (hb2 : Nat.blt d2 100000 = true) (hunk : look 999999999 H = none)
    (hk : ∀ y ∈ ks, Comp kk key y) (hn : key ∉ ks)
    (hF : F.all (fun m => !(Nat.beq m n) && (look m H).isSome) = true)
    (h : TJ E ops Q F rest ⟨(d2, unk) :: (d1, unk) :: env, (n, .map (ks ++ [key]) (vs ++ [u])) :: H, gl⟩) :
    TJ E ops Q F ((⟨some d1, .mapEntry t x y, ty1, p1, af1, none⟩, .keep) :: (⟨some d2, .extract (.tmp d1) 1, ty2, p2, af2, none⟩, .pure) :: (⟨none, .entryStore t x3 (.tmp d2) z, ty3, p3, af3, none⟩, .keep) :: rest) ⟨env, H, gl⟩ := fun β a w J hB0 hJ0 => by
  simp only [wpTail]
  intro n1
  rw [if_pos (wanted_none rfl _)]
  have hB := hB0.later n1.grows
  obtain ⟨r, h1, h2⟩ := hB.ev hx hox
  obtain ⟨r', es, c, h3, h4, h5, h6, hbn⟩ := hB.obs n _ hl
  rw [h1] at h3
  cases h3
  have hkr := hB.ev hy hoy
  have hkey : a.eval y = keyV key := hc.rep.1 _ hkr
  obtain ⟨q, h7, h8⟩ := findKey_run (P := E.P) (t := k) (x := key) n1.w es.toList (keys_comp h5 hk)
  have := found_miss h5 hk hn h8
  subst this
  obtain ⟨i0, z1, hi0, hz1, hzr⟩ := zeroD_one hz0
  let o1 : Obj := .map (es.push { key := keyV key, val := z1, born := c }) (c + 1)
  have hr1 : (execOp a.eval ⟨some d1, .mapEntry t x y, ty1, p1, af1, none⟩).run E.P n1.w = .ok (.value (.tuple #[z1, goInt c])) (n1.w.putObj r o1) := by
    simp only [execOp, h2, hkey, Instr.mapEntry, Sem.run_bind, run_underlying (map_parts ht), Result.andThen_ok, run_getMap h4, hc.check, h7, run_setMap _ h4, Sem.run_pure, run_zeroValue' hi0 hz1]
    rfl
  have hoff : ∀ m ∈ F, ∀ b, hb (β m).v = some b → b ≠ r := fun m hm b hb' e => by
    have := List.all_eq_true.1 hF m hm
    simp only [Bool.and_eq_true, Bool.not_eq_true'] at this
    obtain ⟨ob, hob⟩ := Option.isSome_iff_exists.1 this.2
    refine hB.apart m n b ob _ (beq_false.1 this.1) hob hl (.inl hb') (.inl ?_)
    rw [h1, e]; rfl
  have hJ1 : ∀ w', (∀ m ∈ F, ∀ b o, hb (β m).v = some b → n1.w.heap[b]? = some o → w'.heap[b]? = some o) → J w' := fun w' hw' => hJ0 w' fun m hm b o h1 h2 => hw' m hm b o h1 (grows_heap n1.grows h2)
  have hput : ∀ m ∈ F, ∀ b o, hb (β m).v = some b → n1.w.heap[b]? = some o → (n1.w.putObj r o1).heap[b]? = some o := fun m hm b o h1 h2 => by
    rw [World.putObj_heap_other (hoff m hm b h1)]; exact h2
  refine wp_value hr1 ⟨hJ1 _ hput, ?_⟩
  have hlt := (Array.getElem?_eq_some_iff.1 h4).1
  have hB1 : StB E.C β ⟨env, (n, .map (ks ++ [key]) (vs ++ [z0])) :: H, gl⟩ a (n1.w.putObj r o1) := hB.setMap hl rfl (fun _ => trivial) (fun _ _ _ _ _ h => by cases h) h1 h4 (.inr fun kp => ⟨r, _, c + 1, h1, World.putObj_heap_same hlt, by
      rw [Array.toList_push, List.map_append]
      exact (RepB.keep kp _ _ h5).append ⟨_, [], rfl, RepD.keep kp _ _ (hkey ▸ hkr), rfl⟩, by
      rw [Array.toList_push, List.map_append]
      exact (RepB.keep kp _ _ h6).append ⟨_, [], rfl, hzr, rfl⟩, fun en' hen' => by
      rw [Array.toList_push] at hen'
      rcases List.mem_append.1 hen' with hen' | hen'
      · have := hbn _ hen'; omega
      · rw [List.mem_singleton] at hen'; subst hen'; exact Nat.lt_succ_self c⟩)
  have hunk1 : look 999999999 ((n, Ob.map (ks ++ [key]) (vs ++ [z0])) :: H) = none := by
    rw [look_cons]
    split
    · rename_i e; subst e; rw [hl] at hunk; cases hunk
    · exact hunk
  have hB2 := hB1.put hd1 (x := .tuple #[z1, goInt c]) (unk_rep hunk1 _)
  dsimp only
  rw [if_pos (wanted_none rfl _)]
  have hev1 : (a.put (some d1) (.tuple #[z1, goInt c])).eval (.tmp d1) = .tuple #[z1, goInt c] := by
    have := put_get a d1 (.tuple #[z1, goInt c]) (by rw [hB.size]; exact hd1) d1
    simp [Act.eval, Array.getD_eq_getD_getElem?, this]
  refine ⟨goInt c, fun w' => by simp [execOp, Instr.extract, hev1], ?_⟩
  intro n3
  rw [if_pos (wanted_none rfl _)]
  have hB3 := (hB2.put hd2 (x := goInt c) (unk_rep hunk1 _)).later n3.grows
  have h9 : n3.w.heap[r]? = some o1 := (n3.grows.block r (by rw [World.putObj_size]; exact hlt)).trans (World.putObj_heap_same hlt)
  have hev2 : ((a.put (some d1) (.tuple #[z1, goInt c])).put (some d2) (goInt c)).eval (.tmp d2) = goInt c := by
    have := put_get (a.put (some d1) (.tuple #[z1, goInt c])) d2 (goInt c) (by rw [hB2.size]; exact hd2) d2
    simp [Act.eval, Array.getD_eq_getD_getElem?, this]
  obtain ⟨r3, g1, g2⟩ := hB3.ev (x := x3) (v := .map n) hx3 hox3
  rw [h1] at g1
  cases g1
  have hzv := hB3.ev (x := z) hz hoz
  have hu3 : ToD ((n, Ob.map (ks ++ [key]) (vs ++ [z0])) :: H) v u := by
    cases hu with
    | d => exact .d _
    | @own m q e' sz' xs' hlm =>
      refine .own (e := e') ?_
      rw [look_cons]
      split
      · rename_i e9; subst e9; rw [hl] at hlm; cases hlm
      · exact hlm
    | nils => exact .nils _
  have hval := hu3.rep hB3 hzv
  have hfi : (es.push { key := keyV key, val := z1, born := c }).findIdx? (fun e => (e.born : Int) == (c : Int)) = some es.size := by
    have hnone : es.findIdx? (fun e => (e.born : Int) == (c : Int)) = none := by
      rw [Array.findIdx?_eq_none_iff]
      intro e he
      have := hbn e (by simpa using he)
      simp
      omega
    rw [Array.findIdx?_push, hnone]
    simp
  let o3 : Obj := .map ((es.push { key := keyV key, val := z1, born := c }).modify es.size fun e => { e with val := ((a.put (some d1) (.tuple #[z1, goInt c])).put (some d2) (goInt c)).eval z }) (c + 1)
  have hr3 : (execOp ((a.put (some d1) (.tuple #[z1, goInt c])).put (some d2) (goInt c)).eval ⟨none, .entryStore t x3 (.tmp d2) z, ty3, p3, af3, none⟩).run E.P n3.w = .ok .skip (n3.w.putObj r o3) := by
    have := run_entryStore (P := E.P) t h9 (c : Int) (((a.put (some d1) (.tuple #[z1, goInt c])).put (some d2) (goInt c)).eval z) hfi
    simp only [execOp, g2, hev2, Sem.run_bind]
    rw [show goInt (c : Int) = .int .i64 (c : Int) from rfl] at this ⊢
    rw [this]
    rfl
  have hput3 : ∀ m ∈ F, ∀ b o, hb (β m).v = some b → n1.w.heap[b]? = some o → (n3.w.putObj r o3).heap[b]? = some o := fun m hm b o h1 h2 => by
    rw [World.putObj_heap_other (hoff m hm b h1)]; exact grows_heap n3.grows (hput m hm b o h1 h2)
  refine wp_skip' hr3 ⟨hJ1 _ hput3, ?_⟩
  have hpush : ((es.push { key := keyV key, val := z1, born := c }).modify es.size fun e => { e with val := ((a.put (some d1) (.tuple #[z1, goInt c])).put (some d2) (goInt c)).eval z }).toList = es.toList ++ [{ key := keyV key, val := ((a.put (some d1) (.tuple #[z1, goInt c])).put (some d2) (goInt c)).eval z, born := c }] := by
    rw [Array.toList_modify, Array.toList_push]
    have : es.size = es.toList.length := by simp
    rw [this, mod_last]
  have hB4 : StB E.C β ⟨(d2, unk) :: (d1, unk) :: env, (n, .map (ks ++ [key]) (vs ++ [u])) :: (n, .map (ks ++ [key]) (vs ++ [z0])) :: H, gl⟩ ((a.put (some d1) (.tuple #[z1, goInt c])).put (some d2) (goInt c)) (n3.w.putObj r o3) := by
    obtain ⟨r4, es4, c4, f1, f2, f3, f4, _⟩ := hB3.obs n (.map (ks ++ [key]) (vs ++ [z0])) (by show look n ((n, _) :: H) = _; rw [look_cons, if_pos rfl])
    rw [h1] at f1
    cases f1
    rw [h9] at f2
    simp only [o1, Option.some.injEq, Obj.map.injEq] at f2
    obtain ⟨rfl, rfl⟩ := f2
    rw [Array.toList_push, List.map_append] at f3 f4
    refine hB3.setMap (by show look n ((n, _) :: H) = _; rw [look_cons, if_pos rfl]) rfl (ob := .map (ks ++ [key]) (vs ++ [z0])) (fun _ => trivial) (fun _ _ _ _ _ h => by cases h) h1 h9 (.inr fun kp => ⟨r, _, c + 1, h1, World.putObj_heap_same (Array.getElem?_eq_some_iff.1 h9).1, ?_, ?_, ?_⟩)
    · rw [hpush, List.map_append]
      exact RepB.keep kp _ _ f3
    · rw [hpush, List.map_append]
      obtain ⟨u1, u2, e1, e2, e3⟩ := RepB.split (RepB.keep kp _ _ f4)
      have l3 := e3.length
      have : u1 = es.toList.map (·.val) := by
        refine (List.append_inj' e1.symm ?_).1
        simp [l3]
      rw [this] at e2
      exact e2.append ⟨_, [], rfl, RepD.keep kp _ _ hval, rfl⟩
    · intro en' hen'
      rw [hpush] at hen'
      rcases List.mem_append.1 hen' with hen' | hen'
      · have := hbn _ hen'; omega
      · rw [List.mem_singleton] at hen'; subst hen'; exact Nat.lt_succ_self c
  refine h β _ _ J (hB4.weak (fun t v h => h) (fun m ob hm => ?_) (fun _ _ h => h) (fun m hm => ?_)) (fun w' hw' => hJ1 w' fun m hm b o h1 h2 => hw' m hm b o h1 (hput3 m hm b o h1 h2))
  · dsimp only at hm ⊢
    rw [look_cons] at hm ⊢
    split
    · rename_i e9; rw [if_pos e9] at hm; exact hm
    · rename_i e9; rw [if_neg e9] at hm; rw [look_cons, if_neg e9]; exact hm
  · have := hB.has m hm
    dsimp only at this ⊢
    rw [look_cons]
    split
    · rfl
    · exact this
end
end
section
theorem Wk.refl (C : Ctx) (S : Sd) : Wk C S S := fun _ _ h => h
theorem tc_mid {E : Set} {Q : Exit → Sd → Prop} {S S' : Sd} {x y : Code} (h1 : TC E x (Exit.thenD (fun S1 => Wk E.C S1 S') Q) S) (h2 : TC E y Q S') : TC E (.seq x y) Q S :=
  tc_seq fun K hK => tc_mono h1 fun e S1 h => match e, h with
    | .normal, h => hK _ (tc_weak h h2)
    | .ret, h => h
    | .exit _, h => h
    | .panic _, h => h
    | .goto _, h => h
    | .outgrown, h => h
theorem tc_keep {E : Set} {Q : Exit → Sd → Prop} {c : Code} {env : List (Nat × V)} {H : List (Nat × Ob)} {gl : List (Nat × List D)} (ts : List Nat) {env' : List (Nat × V)} {H' : List (Nat × Ob)} (h : TC E c Q ⟨env', H', gl⟩) (hts : nodupN ts = true := by exact rfl) (hk : Keep ts env env' := by (repeat (first | exact Keep.nil _ | apply Keep.drop rfl rfl | apply Keep.take rfl | apply Keep.ghost rfl)); fail_if_success intros) (hh : KeepH [] H H' := by (repeat (first | exact KeepH.nil _ | apply KeepH.take rfl | apply KeepH.drop rfl)); fail_if_success intros) : TC E c Q ⟨env, H, gl⟩ :=
  tc_weak (S' := ⟨env', H', gl⟩) (fun a w ⟨β, hB⟩ => ⟨β, hB.weak (fun t v hl => hk.look (nodupN_iff hts) hl) (fun n ob hl => by
    have := hh.look (n := n) (by simp)
    dsimp only at hl ⊢
    rw [← this]; exact hl) (fun _ _ h => h) (fun n hn => by
    have := hh.look (n := n) (by simp)
    dsimp only
    rw [this]; exact hB.has n hn)⟩) h
section
variable {E : Set} {S : Sd} {dst : Option Tmp} {ty : TypeId} {pos : String} {af : Array Edge} {gd : Option (Nat × Bool)}
theorem w_build0 {t n e sz : Nat} {vs : List V} {zs : List D} [ht : TArray E.P t n e sz] [hz : TZero E.P t vs] (hzd : ZeroD vs zs := by (repeat (first | exact ZeroD.nil | apply ZeroD.d | apply ZeroD.nils)); fail_if_success intros) : Swift E S ⟨dst, .build t #[], ty, pos, af, gd⟩ (.d (.agg zs)) := Swift.mk fun β a w h => by
  obtain ⟨ie, hu, hie, hs, hpos⟩ := array_parts ht
  obtain ⟨i, z, hi, hiz, h1, _⟩ := zero_parts hz
  refine ⟨.agg z.cells.toList.toArray, fun w' _ => ?_, _, rfl, zeroD_rep (w := w) (M := Mut E.C.M0 β S.H) hzd h1⟩
  simp only [execOp, Sem.run_bind, Instr.build, zeroValue, typeInfo, hi, hiz, run_underlying hu, Sem.run_pure, Result.andThen_ok, program, Sem.run, run_size hie, Array.toArray_toList]
  simp [Instr.fill]
end
end
section
section
variable {E : Set} {Q : Exit → Sd → Prop} {ops : Array Oper} {draw : Bool} {rest : Todo} {way : Way3} {ty : TypeId} {pos : String} {af : Array Edge} {gd : Option (Nat × Bool)} {dst : Option Tmp}
variable {env : List (Nat × V)} {H : List (Nat × Ob)} {gl : List (Nat × List D)} {d : Nat}
theorem tc_nilbox {c : Code} (n m j : Nat) {e sz sz' : Nat} {cs : List V} (hl : look n H = some (.box cs)) (hj : cs[j]? = some (.nils sz')) (hn : Sd.fresh ⟨env, H, gl⟩ m = true) (h : TC E c Q ⟨env, (n, .box (cs.set j (.own m 0))) :: (m, .row e sz true [] 0) :: H, gl⟩) : TC E c Q ⟨env, H, gl⟩ := fun a w ⟨β, hB⟩ => by
  have hnm : m ≠ n := by
    rintro rfl
    have := Sd.fresh_none hn
    dsimp only at this
    rw [hl] at this
    cases this
  have h1 := hB.nilRow (e := e) (sz := sz) hn
  have hl2 : look n ((m, Ob.row e sz true [] 0) :: H) = some (.box cs) := by rw [look_cons, if_neg hnm]; exact hl
  have hH : ∀ q e' sz' sh' xs' k', look q ((n, Ob.box (cs.set j (.own m 0))) :: (m, Ob.row e sz true [] 0) :: H) = some (.row e' sz' sh' xs' k') → ∃ sh' xs', look q ((m, Ob.row e sz true [] 0) :: H) = some (.row e' sz' sh' xs' k') := fun q e' sz' sh' xs' k' hm => by
    rw [look_set] at hm
    split at hm
    · cases hm
    · exact ⟨sh', xs', hm⟩
  refine h a w ⟨_, h1.turn hl2 (fun _ _ => rfl) rfl rfl rfl (Nat.le_refl _) (fun _ _ _ => rfl) (fun b h => .inl h) (fun _ _ _ _ _ h => h) (fun _ _ _ _ _ => trivial)
    (fun k t x v _ => RepV.keep k (fun _ => rfl) hH x v) (fun _ => rfl) (fun k m cs vs _ _ => RepL.keep k (fun _ => rfl) hH _ vs) (fun k => ?_)⟩
  obtain ⟨b, vs, t, e1, e2, hL⟩ := h1.obs n _ hl2
  have hr := RepL.keep k (fun _ => rfl) hH _ _ hL
  obtain ⟨u, hu1, hu2⟩ := hr.get hj
  have hu : u = .slice none 0 0 := hu2
  subst hu
  have hs := hr.set j (x := .own m 0) (v := .slice none 0 0) (fun e' sz'' sh xs hl' => by rw [upd_v])
  rw [show vs.set j (.slice none 0 0) = vs from by
    obtain ⟨h3, h4⟩ := List.getElem?_eq_some_iff.1 hu1
    rw [← h4]; exact List.set_getElem_self h3] at hs
  exact ⟨b, vs, t, e1, e2, hs⟩
end
end
section
section
variable {E : Set} {Q : Exit → Sd → Prop} {ops : Array Oper} {draw : Bool} {rest : Todo}
variable {env : List (Nat × V)} {H : List (Nat × Ob)} {gl : List (Nat × List D)}
theorem keep_wk {C : Ctx} (ts : List Nat) {env' : List (Nat × V)} {H' : List (Nat × Ob)} (hts : nodupN ts = true) (hk : Keep ts env env') (hh : KeepH [] H H') : Wk C ⟨env, H, gl⟩ ⟨env', H', gl⟩ := fun a w ⟨β, hB⟩ => ⟨β, hB.weak (fun t v hl => hk.look (nodupN_iff hts) hl) (fun n ob hl => by
    have := hh.look (n := n) (by simp)
    dsimp only at hl ⊢
    rw [← this]; exact hl) (fun _ _ h => h) (fun n hn => by
    have := hh.look (n := n) (by simp)
    dsimp only
    rw [this]; exact hB.has n hn)⟩
theorem tr_keep (ts : List Nat) {env' : List (Nat × V)} {H' : List (Nat × Ob)} (h : TR E draw ops Q rest ⟨env', H', gl⟩) (hts : nodupN ts = true := by exact rfl) (hk : Keep ts env env' := by (repeat (first | exact Keep.nil _ | apply Keep.drop rfl rfl | apply Keep.take rfl | apply Keep.ghost rfl)); fail_if_success intros) (hh : KeepH [] H H' := by (repeat (first | exact KeepH.nil _ | apply KeepH.take rfl | apply KeepH.drop rfl)); fail_if_success intros) : TR E draw ops Q rest ⟨env, H, gl⟩ :=
  fun a w hS => h a w (keep_wk ts hts hk hh a w hS)
inductive Drop {α : Type} (ts : List Nat) : List (Nat × α) → List (Nat × α) → Prop
  | nil : Drop ts [] []
  | take {t : Nat} {v : α} {l r : List (Nat × α)} (h : memN t ts = false) (k : Drop ts l r) : Drop ts ((t, v) :: l) ((t, v) :: r)
  | drop {t : Nat} {v : α} {l r : List (Nat × α)} (h : memN t ts = true) (k : Drop ts l r) : Drop ts ((t, v) :: l) r
theorem tc_famx {c : Code} {ι : Type} (ts ns : List Nat) (ch : ι → List (Nat × V)) (oh : ι → List (Nat × Ob)) (P : ι → Prop) (m : ι → Nat) (i0 : ι) {env' : List (Nat × V)} {H' : List (Nat × Ob)} (hp : P i0) (_hd : Drop ts env env') (_hn : Drop ns H H')
    (h0 : Wk E.C ⟨env, H, gl⟩ ⟨ch i0 ++ env', oh i0 ++ H', gl⟩) (round : ∀ i, P i → TC E c (Exit.thenD (fun S' => ∃ j, P j ∧ m j < m i ∧ Wk E.C S' ⟨ch j ++ env', oh j ++ H', gl⟩) Q) ⟨ch i ++ env', oh i ++ H', gl⟩) : TC E (.loop c) Q ⟨env, H, gl⟩ :=
  tc_fam (fun i => ⟨ch i ++ env', oh i ++ H', gl⟩) P m i0 hp h0 round
end
inductive Pures : List V → Prop
  | nil : Pures []
  | cons {v : V} {vs : List V} (h : Pure v) (t : Pures vs) : Pures (v :: vs)
theorem Pures.all {vs : List V} (h : Pures vs) : ∀ v ∈ vs, Pure v := by
  induction h with
  | nil => intro v hv; cases hv
  | cons h _ ih =>
    intro v hv
    rcases List.mem_cons.1 hv with rfl | hv
    · exact h
    · exact ih v hv
theorem Drop.look {α : Type} {ts : List Nat} {l r : List (Nat × α)} (h : Drop ts l r) : ∀ {n : Nat} {v : α}, Go.Proofs.YtjhbglklcddekaaGreatDoor.look n r = some v → Go.Proofs.YtjhbglklcddekaaGreatDoor.look n l = some v := by
  have key : ∀ {n : Nat} {v : α}, Go.Proofs.YtjhbglklcddekaaGreatDoor.look n r = some v → memN n ts = false ∧ Go.Proofs.YtjhbglklcddekaaGreatDoor.look n l = some v := by
    induction h with
    | nil => intro n v h; cases h
    | @take t u l r h k ih =>
      intro n v hl
      rw [look_cons] at hl ⊢
      split at hl
      · rename_i e; subst e; exact ⟨h, by rw [if_pos rfl]; exact hl⟩
      · rename_i e; rw [if_neg e]; exact ih hl
    | @drop t u l r h k ih =>
      intro n v hl
      obtain ⟨h1, h2⟩ := ih hl
      refine ⟨h1, ?_⟩
      rw [look_cons, if_neg]
      · exact h2
      · rintro rfl; rw [h] at h1; cases h1
  intro n v hl
  exact (key hl).2
section
variable {E : Set} {Q : Exit → Sd → Prop} {ops : Array Oper} {draw : Bool} {rest : Todo} {way : Way3} {ty : TypeId} {pos : String} {af : Array Edge} {gd : Option (Nat × Bool)}
variable {env : List (Nat × V)} {H : List (Nat × Ob)} {gl : List (Nat × List D)} {d : Nat}
theorem s_callG {f : Nat} {fx : Operand} {xs : List Operand} {ats : Array TypeId} {fs gs vs args : List V} {R : V → List (Nat × Ob) → Prop} [hf : TFun E.P f] (hfx : Sd.ev ⟨env, H, gl⟩ fx = some (.clo (.func f) fs gs)) (hof : okOp fx = true) (hx : Evs ⟨env, H, gl⟩ xs vs) (ha : ArgsE H (fs ++ vs ++ gs) args)
    (hc : FnE E.P gl f args [] R) (hp : Pures args) (hd : d < E.C.nt) (hg : Sd.gd ⟨env, H, gl⟩ ops ⟨some d, .call { callee := .value fx, args := xs.toArray, argTypes := ats }, ty, pos, af, gd⟩ = some true) (hw : way.loud = true)
    (h : ∀ v H1, R v H1 → freshNew ⟨env, H, gl⟩ [] H1 = true ∧ TR E draw ops Q rest ⟨(d, v) :: env, H1 ++ H, gl⟩) : TR E draw ops Q (.step ⟨some d, .call { callee := .value fx, args := xs.toArray, argTypes := ats }, ty, pos, af, gd⟩ way rest) ⟨env, H, gl⟩ := fun a w hS => by
  have hS0 := hS
  have key : ∀ w1, Grows w w1 → ∀ K : Act → World → Prop, (∀ v H1 a2 w2, R v H1 → Grows w1 w2 → St E.C ⟨(d, v) :: env, H1 ++ H, gl⟩ a2 w2 → K a2 w2) → (⟨some d, .call { callee := .value fx, args := xs.toArray, argTypes := ats }, ty, pos, af, gd⟩ : Oper).wp E.P a w1 K (Qof E.C Q) := fun w1 g K hK => by
    obtain ⟨β, hB⟩ := hS.later g
    obtain ⟨fs', gs', h1, h2, h3⟩ := hB.ev hfx hof
    unfold Oper.wp
    rw [run_callV hf a h1 xs ats (some d) w1, Oper.upon_enter]
    let M : Nat → Nat → Prop := fun b o => E.C.M0 b o ∨ ∃ m ob, look m H = some ob ∧ look m ([] : List (Nat × Ob)) = none ∧ own (β m) ob b ∧ ob.mut o
    have hMut : Mut M β [] = Mut E.C.M0 β H := by
      funext b o
      apply propext
      constructor
      · rintro ((hm | ⟨m, ob, q1, _, q2, q3⟩) | ⟨n, ob, q1, q2, q3⟩)
        · exact .inl hm
        · exact .inr ⟨m, ob, q1, q2, q3⟩
        · cases q1
      · rintro (hm | ⟨n, ob, q1, q2, q3⟩)
        · exact .inl (.inl hm)
        · exact .inl (.inr ⟨n, ob, q1, rfl, q2, q3⟩)
    have hargs := ha.rep hB (RepL.app (RepL.app h2 (hx.rep hB)) h3)
    refine (hc w1 M β _ ?_ ?_ ⟨(fun n ob hl => by cases hl), (fun n m b ob ob' hne q1 q2 => by cases q1), (fun n ob b o hl hb' hm => by cases hl)⟩ ?_).mono ?_
    · rintro b o (hm | ⟨m, ob, q1, _, q2, _⟩)
      · have := hB.low b o hm
        have := hB.frame.size
        omega
      · exact hB.old q1 q2
    · rw [hMut]
      exact RepL.pure (fun v hv u hu => (hp.all v hv).keep (Keeps.refl _ _) u hu) hargs
    · rw [hMut]
      exact hB.glob
    · rintro e w' ⟨v, x, H1, β1, hR, hok, rfl, hfr, hβ, hnew, ho, hv⟩
      obtain ⟨hf', _⟩ := h v H1 hR
      obtain ⟨β', hB', hv'⟩ := hB.called (H0 := []) (fun n ob hl => by cases hl) rfl rfl hok hfr hβ hnew ho hf' hv
      refine hK v H1 _ _ hR ?_ ⟨β', hB'.put hd hv'⟩
      have e0 : blks β [] = [] := rfl
      rw [e0] at hfr
      exact hfr.below
  cases draw with
  | true =>
    dsimp only
    cases way with
    | pure => cases hw
    | quiet => cases hw
    | grow =>
      simp only [wpMix3]
      intro n
      rw [Sd.gd_sound hS0 hg, if_pos rfl]
      exact key n.w n.grows _ fun v H1 a2 w2 hr g2 hs2 => ⟨g2, (h v H1 hr).2 _ _ hs2⟩
    | bar =>
      simp only [wpMix3]
      intro n
      rw [Sd.gd_sound hS0 hg, if_pos rfl]
      exact key n.w n.grows _ fun v H1 a2 w2 hr g2 hs2 => (h v H1 hr).2 _ _ hs2
  | false => exact listIn_of_wp hS0 hg rfl fun K hK => key w (Grows.refl w) K fun v H1 a2 w2 hr _ hs2 => hK _ _ ((h v H1 hr).2 _ _ hs2)
end
end
end Go.Proofs.YtjhbglklcddekaaGreatDoor
