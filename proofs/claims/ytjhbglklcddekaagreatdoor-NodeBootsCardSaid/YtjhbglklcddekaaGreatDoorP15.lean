/- Parts: D23. -/
import Derived.Test.YtjhbglklcddekaaGreatDoorP14
set_option linter.all false
set_option maxRecDepth 100000
set_option maxHeartbeats 16000000
namespace Go.Proofs.YtjhbglklcddekaaGreatDoor
open Go.RowKit
section
section
variable {E : Set} {Q : Exit → Sd → Prop} {ops : Array Oper} {draw : Bool} {rest : Todo} {way : Way3} {ty : TypeId} {pos : String} {af : Array Edge} {gd : Option (Nat × Bool)} {dst : Option Tmp}
variable {env : List (Nat × V)} {H : List (Nat × Ob)} {gl : List (Nat × List D)} {d : Nat}
theorem tc_share {c : Code} (n : Nat) {e sz k : Nat} {sh : Bool} {xs : List D} (hn : look n H = some (.row e sz sh xs k)) (h : TC E c Q ⟨env, (n, .row e sz true xs k) :: H, gl⟩) : TC E c Q ⟨env, H, gl⟩ := fun a w ⟨β, hB⟩ => h a w ⟨β, hB.share hn⟩
inductive Frz (H : List (Nat × Ob)) : List V → List D → List Nat → Prop
  | nil : Frz H [] [] []
  | cons {v : V} {x : D} {vs : List V} {xs : List D} {ms : List Nat} (h : ToD H v x) (t : Frz H vs xs ms) : Frz H (v :: vs) (x :: xs) ms
  | map {m : Nat} {ks us : List D} {vs : List V} {xs : List D} {ms : List Nat} (h : look m H = some (.map ks us)) (t : Frz H vs xs ms) : Frz H (.map m :: vs) (.map ks us :: xs) (m :: ms)
theorem tc_freeze {c : Code} {t n off : Nat} {cs : List V} {ds : List D} {ms : List Nat} {env' : List (Nat × V)} {H' : List (Nat × Ob)} (hl : look t env = some (.ptr n off)) (hb' : look n H = some (.box cs)) (hf : Frz H cs ds ms) (hsc : ds.all D.scalar = true) (h1 : Sub env env') (h2 : Sub H H')
    (hn : ((n :: ms).all fun m => (look m H').isNone) = true) (hN : (E.C.N.all fun n => (look n H').isSome) = true) (h : TC E c Q ⟨(t, .d (.ref ds off)) :: env', H', gl⟩) : TC E c Q ⟨env, H, gl⟩ := fun a w ⟨β, hB⟩ => by
  have hB' := hB.weak (S' := ⟨env', H', gl⟩) (fun t v h => h1.look h) (fun n ob h => h2.look h) (fun _ _ h => h) (fun n hn => List.all_eq_true.1 hN n hn)
  have hne : ∀ m, m ∈ n :: ms → look m H' = none := fun m hm => by simpa using List.all_eq_true.1 hn m hm
  have hk : Keeps w (Mut E.C.M0 β H) w (Mut E.C.M0 β H') := Keeps.weak fun b o hm => by
    rcases hm with hm | ⟨m, ob, q1, q2, q3⟩
    · exact .inl hm
    · exact .inr ⟨m, ob, h2.look q1, q2, q3⟩
  have hfree : ∀ m ob b o, m ∈ n :: ms → look m H = some ob → hb (β m).v = some b → ¬ Mut E.C.M0 β H' b o := fun m ob b o hm hlm hbm hmut => by
    rcases hmut with q | ⟨m2, ob2, q1, q2, q3⟩
    · exact hB.out m ob b o hlm (.inl hbm) q
    · have : m ≠ m2 := by rintro rfl; rw [hne m hm] at q1; cases q1
      exact hB.apart m m2 b ob ob2 this hlm (h2.look q1) (.inl hbm) q2
  refine h a w ⟨β, { hB' with env := fun s v hs => ?_ }⟩
  dsimp only at hs
  rw [look_cons] at hs
  split at hs
  · rename_i e
    subst e
    cases hs
    obtain ⟨x, q1, b, q2, rfl⟩ := hB.env t _ hl
    obtain ⟨b2, vs, ty, q3, q4, q5⟩ := hB.obs n _ hb'
    rw [q2] at q3
    cases q3
    refine ⟨_, q1, b, 0, vs, by rw [Nat.zero_add], ?_, fun j y hj => ⟨b, 0, rfl, ?_, ?_⟩⟩
    · have : ∀ (cs : List V) (ds : List D) (ms' : List Nat), Frz H cs ds ms' → ds.all D.scalar = true → (∀ m ∈ ms', m ∈ ms) → ∀ vs, RepL w (Mut E.C.M0 β H) β H cs vs → RepA w (Mut E.C.M0 β H') ds vs := fun cs ds ms' hf => by
        induction hf with
        | nil => intro _ _ vs h; exact h
        | cons hd _ ih =>
          intro hs hm vs hv
          obtain ⟨u, r, rfl, r1, r2⟩ := hv
          simp only [List.all_cons, Bool.and_eq_true] at hs
          have r3 := hd.rep hB r1
          exact ⟨u, r, rfl, r3.oneOf hs.1, RepD.keep hk _ _ r3, ih hs.2 hm r r2⟩
        | @map m ks us vs' xs ms2 hlm _ ih =>
          intro hs hm vs hv
          obtain ⟨u, r, rfl, ⟨rr, r1, r1'⟩, r2⟩ := hv
          simp only [List.all_cons, Bool.and_eq_true] at hs
          obtain ⟨r0, es, clock, r3, r4, r5, r6, _⟩ := hB.obs m _ hlm
          rw [r1] at r3
          cases r3
          subst r1'
          exact ⟨_, r, rfl, rfl, ⟨rr, es, clock, rfl, r4, fun o => hfree m _ rr o (List.mem_cons_of_mem _ (hm m List.mem_cons_self)) hlm (by rw [r1]; rfl), RepB.keep hk _ _ r5, RepB.keep hk _ _ r6⟩, ih hs.2 (fun m' h' => hm m' (List.mem_cons_of_mem _ h')) r r2⟩
      exact this cs ds ms hf hsc (fun m h => h) vs q5
    · exact hfree n _ b _ List.mem_cons_self hb' (by rw [q2]; rfl)
    · rw [Nat.zero_add]
      exact box_cell q4 hj
  · exact hB'.env s v hs
theorem mod_last {α : Type} (f : α → α) (x : α) : ∀ l : List α, (l ++ [x]).modify l.length f = l ++ [f x]
  | [] => rfl
  | y :: l => by simp [mod_last f x l]
theorem RepB.split {w : World} {M : Nat → Nat → Prop} : ∀ {xs ys : List D} {us : List Value}, RepB w M (xs ++ ys) us → ∃ u1 u2, us = u1 ++ u2 ∧ RepB w M xs u1 ∧ RepB w M ys u2
  | [], _, us, h => ⟨[], us, rfl, rfl, h⟩
  | x :: xs, ys, _, h => by
    obtain ⟨v, r, rfl, h1, h2⟩ := h
    obtain ⟨u1, u2, rfl, h3, h4⟩ := RepB.split h2
    exact ⟨v :: u1, u2, rfl, ⟨v, u1, rfl, h1, h3⟩, h4⟩
inductive BuildV (P : Program) (S : Sd) (t : Nat) : List V → List (Nat × Operand) → List V → Prop
  | nil (zs : List V) : BuildV P S t zs [] zs
  | cons {zs zs' ds cs : List V} {f off ft m : Nat} {x : Operand} {v : V} {ps : List (Nat × Operand)} [hf : TField P t f off ft] [hs : TSize P ft m] (hx : S.ev x = some v) (ho : okOp x = true) (hw : ownOk S v = true) (hc : CellsV v cs) (hm : cs.length = m) (hr : Repl zs off cs zs') (h : BuildV P S t zs' ps ds) :
    BuildV P S t zs ((f, x) :: ps) ds
theorem RepL.cut {w : World} {M : Nat → Nat → Prop} {β : Nat → Hd} {H : List (Nat × Ob)} : ∀ (k : Nat) {l : List V} {m : List Value}, RepL w M β H l m → RepL w M β H (l.take k) (m.take k) ∧ RepL w M β H (l.drop k) (m.drop k)
  | 0, _, _, h => ⟨by simp [RepL], h⟩
  | k + 1, [], _, h => by simp only [RepL] at h; subst h; exact ⟨by simp [RepL], by simp [RepL]⟩
  | k + 1, y :: l, _, h => by
    obtain ⟨v, r, rfl, h5, h6⟩ := h
    obtain ⟨q1, q2⟩ := RepL.cut k h6
    exact ⟨⟨v, _, rfl, h5, q1⟩, q2⟩
theorem BuildV.rep {P : Program} {C : Ctx} {β : Nat → Hd} {S : Sd} {a : Act} {w : World} (h : StB C β S a w) {t : Nat} {fs : Array Field} (hu : P.underlying t = some (.struct fs)) {places : Array (Nat × Nat)} (hp : ∀ (f : Nat) (fd : Field) i, fs[f]? = some fd → P.info? fd.type = some i → places[f]? = some (fd.offset, i.size))
    {zs ds : List V} {ps : List (Nat × Operand)} (hb : BuildV P S t zs ps ds) : ∀ {us : List Value}, RepL w (Mut C.M0 β S.H) β S.H zs us → (∀ u ∈ us, u.oneCell' = true) →
    ∃ vs : List Value, Instr.fill (places[·]?) us.toArray (ps.map fun x => (x.1, a.eval x.2)) = some vs.toArray ∧ RepL w (Mut C.M0 β S.H) β S.H ds vs ∧ ∀ u ∈ vs, u.oneCell' = true := by
  induction hb with
  | nil zs => intro us hr h1; exact ⟨us, rfl, hr, h1⟩
  | @cons zs zs' ds cs f off ft m x v ps hf hs hx ho hw hc hm hr hb ih =>
    intro us hrep hone
    obtain ⟨fs', fd, i, hu', h1, h2, h3, h4, _⟩ := field_parts hf
    rw [hu] at hu'
    cases hu'
    have hi : i.size = m := by have := hs.ok; rw [h4] at this; simpa using this
    have hpl := hp f fd i h1 (by rw [h3]; exact h4)
    obtain ⟨hcs, hco⟩ := hc.rep h (h.ev hx ho) (ownOk_spec hw)
    have hlen := hcs.length
    obtain ⟨h5, h6⟩ := hr.eq
    have hul := hrep.length
    have hsz : (a.eval x).cells.size = m := by simp at hlen; omega
    have hnew : RepL w (Mut C.M0 β S.H) β S.H zs' (us.take off ++ (a.eval x).cells.toList ++ us.drop (off + (a.eval x).cells.toList.length)) := by
      rw [h5, ← hlen]
      exact RepL.app (RepL.app (RepL.cut off hrep).1 hcs) (RepL.cut _ hrep).2
    obtain ⟨vs, h7, h8⟩ := ih hnew (fun u hu => by
      rcases List.mem_append.1 hu with hu | hu
      · rcases List.mem_append.1 hu with hu | hu
        · exact hone u (List.mem_of_mem_take hu)
        · exact hco u hu
      · exact hone u (List.mem_of_mem_drop hu))
    refine ⟨vs, ?_, h8⟩
    simp only [List.map_cons, Instr.fill, hpl]
    rw [if_neg (by
      simp only [ne_eq, Bool.or_eq_true, decide_eq_true_eq, not_or, Decidable.not_not, List.size_toArray]
      simp at hlen
      omega)]
    have hfo := foldl_repl fd.offset (a.eval x).cells.toList us.toArray (by simp at hlen ⊢; omega)
    rw [Array.toArray_toList] at hfo
    simp only [List.toList_toArray] at hfo
    rw [hfo, h2]
    exact h7
theorem zeroRep_one : ∀ {us : List Value} {vs : List V}, zeroRep us vs = true → ∀ u ∈ us, u.oneCell' = true
  | [], _, _, u, hu => by cases hu
  | x :: us, [], h, _, _ => by cases h
  | x :: us, v :: vs, h, u, hu => by
    simp only [zeroRep, Bool.and_eq_true] at h
    rcases List.mem_cons.1 hu with rfl | hu
    · have := h.1
      unfold zeroCell at this
      split at this <;> first | rfl | cases this
    · exact zeroRep_one h.2 u hu
theorem q_buildV {S : Sd} {t : Nat} {ps : List (Nat × Operand)} {vs ds : List V} [ht : TStruct E.P t] [hz : TZero E.P t vs] (hb : BuildV E.P S t vs ps ds) : Swift E S ⟨dst, .build t ps.toArray, ty, pos, af, gd⟩ (.agg ds) := Swift.mk fun β a w h => by
  obtain ⟨fs, hu, hfs⟩ := struct_parts ht
  obtain ⟨i, z, hi, hiz, h1, _⟩ := zero_parts hz
  obtain ⟨pl, h2, h3⟩ := run_places (P := E.P) fs.toList hfs
  obtain ⟨us, h4, h5, h6⟩ := hb.rep h hu (places := pl.toArray) (fun f fd i hf hi => by simpa using h3 f fd i (by simpa using hf) hi) (zeroRep_rep h1) (zeroRep_one h1)
  refine ⟨.agg us.toArray, fun w' _ => ?_, us, rfl, h6, h5⟩
  have hpl : (fs.mapM fun f => do pure (f.offset, ← sizeOf f.type) : Sem (Array (Nat × Nat))).run E.P w' = .ok pl.toArray w' := by
    rw [Array.mapM_eq_mapM_toList]
    simp only [Sem.run_map]
    refine (congrArg (fun r : Result (List (Nat × Nat)) => r.andThen fun a w' => Result.ok a.toArray w') (h2 w')).trans ?_
    rfl
  rw [Array.toArray_toList] at h4
  simp only [execOp, Sem.run_bind, Instr.build, zeroValue, typeInfo, hi, hiz, run_underlying hu, Sem.run_pure, Result.andThen_ok, program, Sem.run]
  simp only [hpl, Result.andThen_ok]
  have e : (ps.toArray.map fun x => (x.1, a.eval x.2)).toList = ps.map fun x => (x.1, a.eval x.2) := by simp
  rw [e, h4]
  rfl
def unk : V := .own 999999999 0
theorem unk_rep {w : World} {M : Nat → Nat → Prop} {β : Nat → Hd} {H : List (Nat × Ob)} (h : look 999999999 H = none) (v : Value) : RepV w M β H unk v := fun e sz sh xs hl => by rw [h] at hl; cases hl
theorem wanted_none {o : Oper} (h : o.guard = none) (y : Nat → Option Bool) : Region.wanted o y = true := by simp [Region.wanted, h]
theorem run_entryStore {P : Program} {w : World} {r c1 i : Nat} {es : Array MapEntry} (t : TypeId) (hw : w.heap[r]? = some (.map es c1)) (s : Int) (val : Value) (hfi : es.findIdx? (fun e => (e.born : Int) == s) = some i) :
    (Instr.entryStore t (.map (some r)) (.int .i64 s) val).run P w = .ok () (w.putObj r (.map (es.modify i fun e => { e with val := val }) c1)) := by
  simp [Instr.entryStore, run_getMap hw, asInt, asIntOf, hfi, run_setMap _ hw]
theorem s_entry_miss {t k e n : Nat} {kk : KeyK} {x y x3 z : Operand} {key u z0 : D} {v : V} {ks vs : List D} {d1 d2 : Nat} {ty1 ty2 ty3 : TypeId} {p1 p2 p3 : String} {af1 af2 af3 : Array Edge} [ht : TMap E.P t k e] [hkk : TKey E.P k kk] [hz0 : TZeroD E.P e z0]
    (hx : Sd.ev ⟨env, H, gl⟩ x = some (.map n)) (hox : okOp x = true) (hl : look n H = some (.map ks vs)) (hy : Sd.ev ⟨env, H, gl⟩ y = some (.d key)) (hoy : okOp y = true) (hx3 : Sd.ev ((⟨env, H, gl⟩ : Sd).put d1 unk |>.put d2 unk) x3 = some (.map n)) (hox3 : okOp x3 = true)
    (hz : Sd.ev ((⟨env, H, gl⟩ : Sd).put d1 unk |>.put d2 unk) z = some v) (hoz : okOp z = true) (hu : ToD H v u) (hc : Comp kk key key) (hd1 : d1 < E.C.nt) (hd2 : d2 < E.C.nt) (hb1 : Nat.blt d1 100000 = true) (hb2 : Nat.blt d2 100000 = true) (hunk : look 999999999 H = none)
    (hk : ∀ y ∈ ks, Comp kk key y) (hn : key ∉ ks)
    (h : TR E true ops Q rest ⟨(d2, unk) :: (d1, unk) :: env, (n, .map (ks ++ [key]) (vs ++ [u])) :: H, gl⟩) :
    TR E true ops Q (.step ⟨some d1, .mapEntry t x y, ty1, p1, af1, none⟩ .bar (.step ⟨some d2, .extract (.tmp d1) 1, ty2, p2, af2, none⟩ .pure (.step ⟨none, .entryStore t x3 (.tmp d2) z, ty3, p3, af3, none⟩ .bar rest))) ⟨env, H, gl⟩ := fun a w hS => by
  show wpMix3 E.P ops (Qof E.C Q) _ a w
  simp only [wpMix3]
  intro n1
  rw [if_pos (wanted_none rfl _)]
  obtain ⟨β, hB⟩ := hS.later n1.grows
  obtain ⟨r, h1, h2⟩ := hB.ev hx hox
  obtain ⟨r', es, c, h3, h4, h5, h6, hbn⟩ := hB.obs n _ hl
  rw [h1] at h3
  cases h3
  have hkr := hB.ev hy hoy
  have hkey : a.eval y = keyV key := hc.rep.1 _ hkr
  obtain ⟨q, h7, h8⟩ := findKey_run (P := E.P) (t := k) (x := key) n1.w es.toList (keys_comp h5 hk)
  have := found_miss h5 hk hn h8
  subst this
  obtain ⟨i0, z1, hi0, hz1, hzr⟩ := zeroD_one hz0
  let o1 : Obj := .map (es.push { key := keyV key, val := z1, born := c }) (c + 1)
  have hr1 : (execOp a.eval ⟨some d1, .mapEntry t x y, ty1, p1, af1, none⟩).run E.P n1.w = .ok (.value (.tuple #[z1, goInt c])) (n1.w.putObj r o1) := by
    simp only [execOp, h2, hkey, Instr.mapEntry, Sem.run_bind, run_underlying (map_parts ht), Result.andThen_ok, run_getMap h4, hc.check, h7, run_setMap _ h4, Sem.run_pure, run_zeroValue' hi0 hz1]
    rfl
  refine wp_value hr1 ?_
  have hlt := (Array.getElem?_eq_some_iff.1 h4).1
  have hB1 : StB E.C β ⟨env, (n, .map (ks ++ [key]) (vs ++ [z0])) :: H, gl⟩ a (n1.w.putObj r o1) := hB.setMap hl rfl (fun _ => trivial) (fun _ _ _ _ _ h => by cases h) h1 h4 (.inr fun kp => ⟨r, _, c + 1, h1, World.putObj_heap_same hlt, by
      rw [Array.toList_push, List.map_append]
      exact (RepB.keep kp _ _ h5).append ⟨_, [], rfl, RepD.keep kp _ _ (hkey ▸ hkr), rfl⟩, by
      rw [Array.toList_push, List.map_append]
      exact (RepB.keep kp _ _ h6).append ⟨_, [], rfl, hzr, rfl⟩, fun en' hen' => by
      rw [Array.toList_push] at hen'
      rcases List.mem_append.1 hen' with hen' | hen'
      · have := hbn _ hen'; omega
      · rw [List.mem_singleton] at hen'; subst hen'; exact Nat.lt_succ_self c⟩)
  have hunk1 : look 999999999 ((n, Ob.map (ks ++ [key]) (vs ++ [z0])) :: H) = none := by
    rw [look_cons]
    split
    · rename_i e; subst e; rw [hl] at hunk; cases hunk
    · exact hunk
  have hB2 := hB1.put hd1 (x := .tuple #[z1, goInt c]) (unk_rep hunk1 _)
  dsimp only
  rw [if_pos (wanted_none rfl _)]
  have hev1 : (a.put (some d1) (.tuple #[z1, goInt c])).eval (.tmp d1) = .tuple #[z1, goInt c] := by
    have := put_get a d1 (.tuple #[z1, goInt c]) (by rw [hB.size]; exact hd1) d1
    simp [Act.eval, Array.getD_eq_getD_getElem?, this]
  refine ⟨goInt c, fun w' => by simp [execOp, Instr.extract, hev1], ?_⟩
  intro n3
  rw [if_pos (wanted_none rfl _)]
  have hB3 := (hB2.put hd2 (x := goInt c) (unk_rep hunk1 _)).later n3.grows
  have h9 : n3.w.heap[r]? = some o1 := (n3.grows.block r (by rw [World.putObj_size]; exact hlt)).trans (World.putObj_heap_same hlt)
  have hev2 : ((a.put (some d1) (.tuple #[z1, goInt c])).put (some d2) (goInt c)).eval (.tmp d2) = goInt c := by
    have := put_get (a.put (some d1) (.tuple #[z1, goInt c])) d2 (goInt c) (by rw [hB2.size]; exact hd2) d2
    simp [Act.eval, Array.getD_eq_getD_getElem?, this]
  obtain ⟨r3, g1, g2⟩ := hB3.ev (x := x3) (v := .map n) hx3 hox3
  rw [h1] at g1
  cases g1
  have hzv := hB3.ev (x := z) hz hoz
  have hu3 : ToD ((n, Ob.map (ks ++ [key]) (vs ++ [z0])) :: H) v u := by
    cases hu with
    | d => exact .d _
    | @own m q e' sz' xs' hlm =>
      refine .own (e := e') ?_
      rw [look_cons]
      split
      · rename_i e9; subst e9; rw [hl] at hlm; cases hlm
      · exact hlm
    | nils => exact .nils _
  have hval := hu3.rep hB3 hzv
  have hfi : (es.push { key := keyV key, val := z1, born := c }).findIdx? (fun e => (e.born : Int) == (c : Int)) = some es.size := by
    have hnone : es.findIdx? (fun e => (e.born : Int) == (c : Int)) = none := by
      rw [Array.findIdx?_eq_none_iff]
      intro e he
      have := hbn e (by simpa using he)
      simp
      omega
    rw [Array.findIdx?_push, hnone]
    simp
  let o3 : Obj := .map ((es.push { key := keyV key, val := z1, born := c }).modify es.size fun e => { e with val := ((a.put (some d1) (.tuple #[z1, goInt c])).put (some d2) (goInt c)).eval z }) (c + 1)
  have hr3 : (execOp ((a.put (some d1) (.tuple #[z1, goInt c])).put (some d2) (goInt c)).eval ⟨none, .entryStore t x3 (.tmp d2) z, ty3, p3, af3, none⟩).run E.P n3.w = .ok .skip (n3.w.putObj r o3) := by
    have := run_entryStore (P := E.P) t h9 (c : Int) (((a.put (some d1) (.tuple #[z1, goInt c])).put (some d2) (goInt c)).eval z) hfi
    simp only [execOp, g2, hev2, Sem.run_bind]
    rw [show goInt (c : Int) = .int .i64 (c : Int) from rfl] at this ⊢
    rw [this]
    rfl
  refine wp_skip' hr3 ?_
  have hpush : ((es.push { key := keyV key, val := z1, born := c }).modify es.size fun e => { e with val := ((a.put (some d1) (.tuple #[z1, goInt c])).put (some d2) (goInt c)).eval z }).toList = es.toList ++ [{ key := keyV key, val := ((a.put (some d1) (.tuple #[z1, goInt c])).put (some d2) (goInt c)).eval z, born := c }] := by
    rw [Array.toList_modify, Array.toList_push]
    have : es.size = es.toList.length := by simp
    rw [this, mod_last]
  have hB4 : StB E.C β ⟨(d2, unk) :: (d1, unk) :: env, (n, .map (ks ++ [key]) (vs ++ [u])) :: (n, .map (ks ++ [key]) (vs ++ [z0])) :: H, gl⟩ ((a.put (some d1) (.tuple #[z1, goInt c])).put (some d2) (goInt c)) (n3.w.putObj r o3) := by
    obtain ⟨r4, es4, c4, f1, f2, f3, f4, _⟩ := hB3.obs n (.map (ks ++ [key]) (vs ++ [z0])) (by show look n ((n, _) :: H) = _; rw [look_cons, if_pos rfl])
    rw [h1] at f1
    cases f1
    rw [h9] at f2
    simp only [o1, Option.some.injEq, Obj.map.injEq] at f2
    obtain ⟨rfl, rfl⟩ := f2
    rw [Array.toList_push, List.map_append] at f3 f4
    refine hB3.setMap (by show look n ((n, _) :: H) = _; rw [look_cons, if_pos rfl]) rfl (ob := .map (ks ++ [key]) (vs ++ [z0])) (fun _ => trivial) (fun _ _ _ _ _ h => by cases h) h1 h9 (.inr fun kp => ⟨r, _, c + 1, h1, World.putObj_heap_same (Array.getElem?_eq_some_iff.1 h9).1, ?_, ?_, ?_⟩)
    · rw [hpush, List.map_append]
      exact RepB.keep kp _ _ f3
    · rw [hpush, List.map_append]
      obtain ⟨u1, u2, e1, e2, e3⟩ := RepB.split (RepB.keep kp _ _ f4)
      have l3 := e3.length
      have : u1 = es.toList.map (·.val) := by
        refine (List.append_inj' e1.symm ?_).1
        simp [l3]
      rw [this] at e2
      exact e2.append ⟨_, [], rfl, RepD.keep kp _ _ hval, rfl⟩
    · intro en' hen'
      rw [hpush] at hen'
      rcases List.mem_append.1 hen' with hen' | hen'
      · have := hbn _ hen'; omega
      · rw [List.mem_singleton] at hen'; subst hen'; exact Nat.lt_succ_self c
  refine h _ _ ⟨β, hB4.weak (fun t v h => h) (fun m ob hm => ?_) (fun _ _ h => h) (fun m hm => ?_)⟩
  · dsimp only at hm ⊢
    rw [look_cons] at hm ⊢
    split
    · rename_i e9; rw [if_pos e9] at hm; exact hm
    · rename_i e9; rw [if_neg e9] at hm; rw [look_cons, if_neg e9]; exact hm
  · have := hB.has m hm
    dsimp only at this ⊢
    rw [look_cons]
    split
    · rfl
    · exact this
end
end
end Go.Proofs.YtjhbglklcddekaaGreatDoor
