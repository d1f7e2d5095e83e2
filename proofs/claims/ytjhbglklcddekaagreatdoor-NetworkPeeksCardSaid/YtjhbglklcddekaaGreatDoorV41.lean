/- Parts: NP4, NP5, NW15. -/
import Derived.Test.YtjhbglklcddekaaGreatDoorV40
import Derived.Test.YtjhbglklcddekaaGreatDoorV38
import Derived.Test.YtjhbglklcddekaaGreatDoorV39
import Derived.Test.YtjhbglklcddekaaGreatDoorV34
import Derived.Test.YtjhbglklcddekaaGreatDoorV35
set_option linter.all false
set_option maxRecDepth 100000
set_option maxHeartbeats 16000000
namespace Go.Proofs.YtjhbglklcddekaaGreatDoor
open Go.RowKit Go.Proofs.Tryz
section
open Go.RowKit Nd
namespace Nd
theorem nstep_sim (a b : Bool) (p : Ps) {want fm : List UInt8} (h : p.ok) (s : p.str want fm) : nstep a b (p.host, p.node) = ((pstep a b p).host, (pstep a b p).node) ∧ (pstep a b p).ok ∧ (pstep a b p).str want fm ∧ (pstep a b p).phi ≤ p.phi ∧ p.node.step.run = none := by
  obtain ⟨h1, s1, e1⟩ := take_inv p h s
  obtain ⟨h2, s2, e2, w2, _⟩ := act_inv p.take h1 s1
  obtain ⟨t1, t2⟩ := sim_take p
  obtain ⟨t3, t4⟩ := sim_act p.take w2
  rw [t2] at t3
  have hb : ∀ q : Ps, q.ok → q.nb = true → q.buf = [] := fun q hq hn => hq.D (hq.C hn)
  have hrun : p.node.step.run = none := by rw [t3]; rfl
  have k0 : ∀ q : Ps, q.ok → q.str want fm → (if a then (q.host, q.node) else ({ q.host with en := q.host.en.next.1 }, q.node.rx 0 q.host.en.next.2)) = ((if a then q else q.dir0).host, (if a then q else q.dir0).node) ∧ (if a then q else q.dir0).ok ∧ (if a then q else q.dir0).str want fm ∧ (if a then q else q.dir0).phi ≤ q.phi := fun q hq sq => by
    cases a with
    | true => exact ⟨rfl, hq, sq, Nat.le_refl _⟩
    | false =>
      obtain ⟨i1, i2, i3⟩ := dir0_inv q hq sq
      obtain ⟨j1, j2⟩ := sim_dir0 q hq.v0 (hb q hq)
      refine ⟨?_, i1, i2, ?_⟩
      · show (_, _) = (_, _)
        rw [j1, j2]
        rfl
      · show q.dir0.phi ≤ q.phi
        omega
  have k1 : ∀ q : Ps, q.ok → q.str want fm → (if b then (q.host, q.node) else (Ho.hears { q.host with en := (q.host.en.hear (q.node.tx 0).2).1 } (q.host.en.hear (q.node.tx 0).2).2, (q.node.tx 0).1)) = ((if b then q else q.dir1).host, (if b then q else q.dir1).node) ∧ (if b then q else q.dir1).ok ∧ (if b then q else q.dir1).str want fm ∧ (if b then q else q.dir1).phi ≤ q.phi := fun q hq sq => by
    cases b with
    | true => exact ⟨rfl, hq, sq, Nat.le_refl _⟩
    | false =>
      obtain ⟨i1, i2, i3⟩ := dir1_inv q hq sq
      obtain ⟨j1, j2⟩ := sim_dir1 q hq.v1
      refine ⟨?_, i1, i2, ?_⟩
      · show (_, _) = (_, _)
        rw [j1, j2]
        rfl
      · show q.dir1.phi ≤ q.phi
        omega
  obtain ⟨c1, c2, c3, c4⟩ := k0 p.take.act h2 s2
  obtain ⟨d1, d2, d3, d4⟩ := k1 (if a then p.take.act else p.take.act.dir0) c2 c3
  refine ⟨?_, d2, d3, ?_, hrun⟩
  · unfold nstep
    dsimp only
    rw [t1, t3, ← t4, c1]
    exact d1
  · show (if b then (if a then p.take.act else p.take.act.dir0) else (if a then p.take.act else p.take.act.dir0).dir1).phi ≤ p.phi
    omega
theorem pstep_less (p : Ps) {want fm : List UInt8} (h : p.ok) (s : p.str want fm) (hp : 0 < p.phi) : (pstep false false p).phi < p.phi := by
  obtain ⟨h1, s1, e1⟩ := take_inv p h s
  obtain ⟨h2, s2, e2, w2, q2, x1, x2, x3⟩ := act_inv p.take h1 s1
  obtain ⟨h3, s3, e3⟩ := dir0_inv p.take.act h2 s2
  obtain ⟨h4, s4, e4⟩ := dir1_inv p.take.act.dir0 h3 s3
  show p.take.act.dir0.dir1.phi < p.phi
  rcases Bool.eq_false_or_eq_true (p.take.act.f0.busy || p.take.act.ha || p.take.act.hd.isSome) with g1 | g1
  · rw [g1, b2n_true] at e3
    omega
  · rw [g1, b2n_false] at e3
    have g1' := g1
    simp only [Bool.or_eq_false_iff] at g1'
    obtain ⟨⟨y1, y2⟩, y3⟩ := g1'
    have z0 : p.take.act.f0 = .none := by
      cases hf : p.take.act.f0 with
      | none => rfl
      | ack => rw [hf] at y1; cases y1
      | byte b i => rw [hf] at y1; cases y1
    have z1 : p.take.act.hd = none := by
      cases hf : p.take.act.hd with
      | none => rfl
      | some b => rw [hf] at y3; cases y3
    have same : p.take.act.dir0 = p.take.act := by
      generalize p.take.act = q at z0 y2 z1
      obtain ⟨f0, f1, ha, hd, hb, g, got, na, nd, nb, inb, buf, out, mem⟩ := q
      dsimp only at z0 y2 z1
      subst z0 y2 z1
      rfl
    rw [same] at e4 h4 ⊢
    rcases Bool.eq_false_or_eq_true (p.take.act.f1.busy || p.take.act.na || p.take.act.nd.isSome) with g2 | g2
    · rw [g2, b2n_true] at e4
      omega
    · exfalso
      have g2' := g2
      simp only [Bool.or_eq_false_iff] at g2'
      obtain ⟨⟨y4, y5⟩, y6⟩ := g2'
      have z2 : p.take.act.f1 = .none := by
        cases hf : p.take.act.f1 with
        | none => rfl
        | ack => rw [hf] at y4; cases y4
        | byte b i => rw [hf] at y4; cases y4
      have z3 : p.take.act.nd = none := by
        cases hf : p.take.act.nd with
        | none => rfl
        | some b => rw [hf] at y6; cases y6
      have A := h2.A
      have B := h2.B
      rw [z0, z2, z3, y2] at B
      have z4 : p.take.act.nb = false := by
        cases hf : p.take.act.nb with
        | false => rfl
        | true => rw [hf] at B; simp [b2n, Fl.bys, Fl.acks] at B
      obtain ⟨z5, z6⟩ := q2 z3 z4 y5
      rw [z0, z1, z2, z6, y5] at A
      have z7 : p.take.act.hb = false := by
        cases hf : p.take.act.hb with
        | false => rfl
        | true => rw [hf] at A; simp [b2n, Fl.bys, Fl.acks] at A
      rw [x3] at z7
      rw [x1] at z1
      have z8 : p.take.g = [] := by
        unfold Ps.take at z7 z1 ⊢
        cases hh : p.hb with
        | true => rw [hh] at z7; simp only [if_true] at z7; rw [hh] at z7; cases z7
        | false =>
          rw [hh] at z7 z1
          cases hg : p.g with
          | nil => simp [hg]
          | cons b g =>
            rw [hg] at z7 z1
            simp only [Bool.false_eq_true, if_false] at z7 z1
            cases hd : p.hd with
            | none => rw [hd] at z1; simp at z1
            | some y => rw [hd] at z1; simp [hd] at z1
      rw [← x2] at z8
      have z9 : p.take.act.phi = 0 := by
        unfold Ps.phi Ps.pin
        rw [z0, x1, z1, z2, z3, z4, z5, z6, z8, y2, y5]
        rfl
      omega
theorem phi_zero (p : Ps) {want fm : List UInt8} (h : p.ok) (s : p.str want fm) (hp : p.phi = 0) : p.host = ⟨se0, [], want, false⟩ ∧ p.node = ⟨-1, [], [], fm, [lk0, lk0, lk0, lk0], none⟩ := by
  obtain ⟨f0, f1, ha, hd, hb, g, got, na, nd, nb, inb, buf, out, mem⟩ := p
  obtain ⟨v0, v1, A, B, C, D, E, L, G, G'⟩ := h
  dsimp only at v0 v1 A B C D E L G G'
  unfold Ps.phi at hp
  dsimp only at hp
  have c0 : f0 = .none := by
    cases f0 with
    | none => rfl
    | ack => simp only [Fl.cost] at hp; omega
    | byte b i => have v0 : i ≤ 9 := v0; simp only [Fl.cost] at hp; omega
  have c1 : f1 = .none := by
    cases f1 with
    | none => rfl
    | ack => simp only [Fl.cost] at hp; omega
    | byte b i => have v1 : i ≤ 9 := v1; simp only [Fl.cost] at hp; omega
  subst c0 c1
  have k : ∀ b : Bool, b2n b = 0 → b = false := fun b h => by cases b with
    | false => rfl
    | true => cases h
  have k' : ∀ o : Option UInt8, b2n o.isSome = 0 → o = none := fun o h => by cases o with
    | none => rfl
    | some x => cases h
  obtain rfl := k' hd (by omega)
  obtain rfl := k' inb (by omega)
  obtain rfl := k' nd (by omega)
  obtain rfl := k na (by omega)
  obtain rfl := k ha (by omega)
  obtain rfl : g = [] := List.eq_nil_of_length_eq_zero (by omega)
  obtain rfl := k hb (by rw [← A]; rfl)
  obtain rfl := k nb (by rw [← B]; rfl)
  obtain rfl : out = [] := List.eq_nil_of_length_eq_zero (by rw [b2n_false] at hp; omega)
  obtain ⟨s1, s2, s3⟩ := s
  have hb : buf = [] := by
    have : buf.isEmpty = true := s3
    simpa using this
  subst hb
  have s1 : got ++ [] ++ [] = want := s1
  have s2 : mem = fm := s2
  subst s2
  rw [List.append_nil, List.append_nil] at s1
  subst s1
  exact ⟨rfl, rfl⟩
end Nd
end
section
open Go.RowKit Nd
namespace Nd
theorem eat_poke (m : List UInt8) (a v : Nat) (ha : a < 4294967296) (hv : v < 4294967296) (r : List UInt8) : eat [] m (0 :: (four a ++ (four v ++ r))) = eat [] (setWord m a v) r := by
  have h1 := num4_four a ha (four v)
  have h2 := num4_four v hv []
  show eat [] m (0 :: UInt8.ofNat a :: UInt8.ofNat (a / 256) :: UInt8.ofNat (a / 65536) :: UInt8.ofNat (a / 16777216) :: UInt8.ofNat v :: UInt8.ofNat (v / 256) :: UInt8.ofNat (v / 65536) :: UInt8.ofNat (v / 16777216) :: r) = _
  have e : eat [] m (0 :: UInt8.ofNat a :: UInt8.ofNat (a / 256) :: UInt8.ofNat (a / 65536) :: UInt8.ofNat (a / 16777216) :: UInt8.ofNat v :: UInt8.ofNat (v / 256) :: UInt8.ofNat (v / 65536) :: UInt8.ofNat (v / 16777216) :: r) = eat [] (setWord m (num4 (four a ++ four v)) (num4 ((four a ++ four v).drop 4))) r := by
    first
      | (simp [eat, whole]; done)
      | (simp [eat, whole]
         rfl)
  rw [e, h1]
  have h3 : (four a ++ four v).drop 4 = four v ++ [] := rfl
  rw [h3, h2]
theorem eat_peek (m : List UInt8) (a : Nat) (ha : a < 4294967296) (r : List UInt8) : eat [] m (1 :: (four a ++ r)) = (four (wordAt m a) ++ (eat [] m r).1, (eat [] m r).2) := by
  have h1 := num4_four a ha []
  rw [List.append_nil] at h1
  have e : eat [] m (1 :: UInt8.ofNat a :: UInt8.ofNat (a / 256) :: UInt8.ofNat (a / 65536) :: UInt8.ofNat (a / 16777216) :: r) = (four (wordAt m (num4 (four a))) ++ (eat [] m r).1, (eat [] m r).2) := by
    first
      | (simp [eat, whole]; done)
      | (simp [eat, whole]
         rfl)
  rw [h1] at e
  exact e
theorem eat_words : ∀ (l : List (Nat × Nat)) (m : List UInt8), okW l → eat [] m (l.flatMap wordB) = (wantW m l, memW m l, true)
  | [], m, _ => rfl
  | x :: l, m, ho => by
    have hx := ho x List.mem_cons_self
    have ih := eat_words l (setWord m x.1 x.2) (fun z hz => ho z (List.mem_cons_of_mem _ hz))
    rw [List.flatMap_cons]
    have e : wordB x ++ l.flatMap wordB = 0 :: (four x.1 ++ (four x.2 ++ (1 :: (four x.1 ++ l.flatMap wordB)))) := by simp [wordB]
    rw [e, eat_poke m x.1 x.2 hx.1 hx.2, eat_peek _ x.1 hx.1, ih, wantW_cons, memW_cons]
def ps0 (g : List UInt8) : Ps := ⟨.none, .none, false, none, false, g, [], false, none, false, none, [], [], List.replicate 1024 0⟩
theorem ps0_ok (g : List UInt8) : (ps0 g).ok := ⟨trivial, trivial, rfl, rfl, (fun h => by cases h), (fun h => absurd rfl h), (fun h => absurd rfl h), List.length_replicate, (fun v h => by cases h), (fun v h => by cases h)⟩
theorem ps0_str (l : List (Nat × Nat)) (ho : okW l) : (ps0 (l.flatMap wordB)).str (wantW (List.replicate 1024 0) l) (memW (List.replicate 1024 0) l) := by
  have e := eat_words l (List.replicate 1024 0) ho
  have hp : (ps0 (l.flatMap wordB)).pin = l.flatMap wordB := rfl
  refine ⟨?_, ?_, ?_⟩
  · rw [hp]
    show [] ++ [] ++ (eat [] (List.replicate 1024 0) _).1 = _
    rw [e]
    rfl
  · rw [hp]
    show (eat [] (List.replicate 1024 0) _).2.1 = _
    rw [e]
  · rw [hp]
    show (eat [] (List.replicate 1024 0) _).2.2 = _
    rw [e]
theorem ps0_phi (l : List (Nat × Nat)) (ho : okW l) : (ps0 (l.flatMap wordB)).phi = 234 * l.length := by
  have e := eat_words l (List.replicate 1024 0) ho
  have hp : (ps0 (l.flatMap wordB)).pin = l.flatMap wordB := rfl
  unfold Ps.phi
  rw [hp]
  show 13 * (l.flatMap wordB).length + 0 + 0 + 0 + 0 + 0 + 0 + 0 + 13 * (0 - 0) + 13 * (eat [] (List.replicate 1024 0) _).1.length = _
  rw [e, words_len, wantW_len]
  omega
theorem got_pre (p : Ps) {want fm : List UInt8} (s : p.str want fm) : p.got.length ≤ want.length ∧ want.take p.got.length = p.got := by
  have h := s.s1
  rw [List.append_assoc] at h
  rw [← h]
  exact ⟨by simp, by simp⟩
theorem Ps.fits (p : Ps) (h : p.ok) : p.node.fits 0 p.lk := by
  obtain ⟨v0, v1, A, B, C, D, E, L, G, G'⟩ := h
  refine ⟨rfl, Fl.se_ok _ _ _ _ v1 v0, C, ?_, rfl, L, fun ho => ?_, fun hl => ?_, fun _ ho hb => ?_, E⟩
  · show (if p.buf = [] ∧ p.out = [] then (-1 : Int) else 0) = -1 ∨ (if p.buf = [] ∧ p.out = [] then (-1 : Int) else 0) = ((0 : Nat) : Int)
    by_cases hc : p.buf = [] ∧ p.out = []
    · exact .inl (if_pos hc)
    · exact .inr (if_neg hc)
  · exact ⟨if_neg fun hc => ho hc.2, D ho⟩
  · have hl : (if p.buf = [] ∧ p.out = [] then (-1 : Int) else 0) = -1 := hl
    by_cases hc : p.buf = [] ∧ p.out = []
    · exact hc
    · rw [if_neg hc] at hl
      cases hl
  · rename_i hl
    have hl : (if p.buf = [] ∧ p.out = [] then (-1 : Int) else 0) = ((0 : Nat) : Int) := hl
    rw [if_pos ⟨hb, ho⟩] at hl
    cases hl
theorem Ps.se_ok (p : Ps) (h : p.ok) : p.host.en.ok := Fl.se_ok _ _ _ _ h.v0 h.v1
end Nd
end
section
open Go.RowKit Nd
theorem held_no0 : ¬ heldE 0 0 := by unfold heldE; decide +kernel
theorem held_no1 : ¬ heldE 0 (0 + 1) := by unfold heldE; decide +kernel
theorem netstep_any (gl : List (Nat × List D)) (t : Nat) (ht : t < 2147483647) (x : Int) (h : Ho) (n : NB) (l : Lk) (hok : h.en.ok) (hf : n.fits 0 l) (hr : n.step.run = none) (hg : h.got.length ≤ 1000000) :
    ∃ a b X, (x = 0 → a = false ∧ b = false) ∧ FnE prog gl 26 [.ptr 960 0, .d (.int .u32 x)] (NetH t h n) (fun v H1 => v = .d (.list 5 X) ∧ H1 = NetH (t + 1) (nstep a b (h, n)).1 (nstep a b (h, n)).2) := by
  have h0 : 0 < 4 := by omega
  obtain ⟨l1, q1⟩ := nstep_wait gl 0 h0 n l hf hr
  have f1 := q1.fits hr
  have k1 := h.take_ok hok
  have four : ∀ (n : NB) (l : Lk), n.ls = at4 0 l → n.four := fun n l h => by
    unfold NB.four
    rw [h]
    exact four_at h0 l
  have cT := htake_fn gl h hok
  have gt : h.take.got.length ≤ 1000000 := by rw [Ho.take_got]; exact hg
  have n0 : x = 0 → ¬ heldE x 0 := fun e => by rw [e]; exact held_no0
  have n1 : x = 0 → ¬ heldE x (0 + 1) := fun e => by rw [e]; exact held_no1
  by_cases e0 : heldE x 0
  · by_cases e1 : heldE x (0 + 1)
    · exact ⟨true, true, _, fun e => absurd e0 (n0 e), netheld_D gl t ht x e0 e1 h h.take n n.step (four _ _ hf.ls) (four _ _ f1.ls) q1.fn cT⟩
    · obtain ⟨e3, cX⟩ := ntx_at gl 0 h0 n.step l1 f1.ls f1.ok
      have cY := hrx_fn gl h.take ((n.step).tx 0).2 k1 gt
      rw [rxH_eq] at cY
      exact ⟨true, false, _, fun e => absurd e0 (n0 e), netheld_B gl t ht x e0 e1 h h.take _ n n.step ((n.step).tx 0).1 (four _ _ hf.ls) (four _ _ f1.ls) (four _ _ e3) _ _ _ (txL_len 0 _) (rxL_len 0 _)
        q1.fn cT (ptx_fn gl 0 _ _ _ _ (four _ _ f1.ls) (four _ _ e3) (ntx5 cX)) cY⟩
  · obtain ⟨l2, f2, cR⟩ := nrx_fn gl 0 h0 n.step l1 h.take.en.next.2 f1
    have cH := htx_fn gl h.take k1
    rw [txH_eq] at cH
    have cP := prx_fn gl 0 _ _ _ _ (four _ _ f1.ls) (four _ _ f2.ls) (nrx5 cR)
    by_cases e1 : heldE x (0 + 1)
    · exact ⟨false, true, _, fun e => absurd e1 (n1 e), netheld_C gl t ht x e0 e1 h h.take { h.take with en := h.take.en.next.1 } n n.step (n.step.rx 0 h.take.en.next.2) (four _ _ hf.ls) (four _ _ f1.ls) (four _ _ f2.ls) _ _ _ (txL_len 0 _) (rxL_len 0 _)
        q1.fn cT cH cP⟩
    · obtain ⟨e3, cX⟩ := ntx_at gl 0 h0 (n.step.rx 0 h.take.en.next.2) l2 f2.ls f2.ok
      have cY := hrx_fn gl { h.take with en := h.take.en.next.1 } ((n.step.rx 0 h.take.en.next.2).tx 0).2 k1.next gt
      rw [rxH_eq] at cY
      exact ⟨false, false, _, fun _ => ⟨rfl, rfl⟩, netheld_A gl t ht x e0 e1 h h.take { h.take with en := h.take.en.next.1 } _ n n.step (n.step.rx 0 h.take.en.next.2) ((n.step.rx 0 h.take.en.next.2).tx 0).1 (four _ _ hf.ls) (four _ _ f1.ls) (four _ _ f2.ls) (four _ _ e3) _ _ _ (txL_len 0 _) (rxL_len 0 _) _ _ _ (txL_len 0 _) (rxL_len 0 _)
        q1.fn cT cH cP (ptx_fn gl 0 _ _ _ _ (four _ _ f2.ls) (four _ _ e3) (ntx5 cX)) cY⟩
def NetP (t : Nat) (p : Ps) : List (Nat × Ob) := NetH t p.host p.node
theorem netstep_ps (gl : List (Nat × List D)) (t : Nat) (ht : t < 2147483647) (x : Int) (p : Ps) {want fm : List UInt8} (h : p.ok) (s : p.str want fm) (hw : want.length ≤ 1000000) :
    ∃ a b X, (x = 0 → a = false ∧ b = false) ∧ FnE prog gl 26 [.ptr 960 0, .d (.int .u32 x)] (NetP t p) (fun v H1 => v = .d (.list 5 X) ∧ H1 = NetP (t + 1) (pstep a b p)) := by
  have hr := (nstep_sim false false p h s).2.2.2.2
  obtain ⟨a, b, X, q, c⟩ := netstep_any gl t ht x p.host p.node p.lk (p.se_ok h) (p.fits h) hr (Nat.le_trans (got_pre p s).1 hw)
  refine ⟨a, b, X, q, ?_⟩
  have e := (nstep_sim a b p h s).1
  rw [e] at c
  exact c
theorem Nd.Ps.four (p : Ps) : p.node.four := ⟨_, _, _, _, rfl⟩
theorem netgot_ps (gl : List (Nat × List D)) (t : Nat) (p : Ps) {want fm : List UInt8} (s : p.str want fm) (hw : want.length ≤ 1000000) : FnE prog gl 25 [.ptr 960 0] (NetP t p) (fun v H1 => v = .d (.list 1 (dBs p.got)) ∧ H1 = NetP t p) :=
  netgot_fn gl t p.host p.node p.four (Nat.le_trans (got_pre p s).1 hw)
theorem ps_next (p : Ps) {want fm : List UInt8} (a b : Bool) (h : p.ok) (s : p.str want fm) : (pstep a b p).ok ∧ (pstep a b p).str want fm ∧ (pstep a b p).phi ≤ p.phi := ⟨(nstep_sim a b p h s).2.1, (nstep_sim a b p h s).2.2.1, (nstep_sim a b p h s).2.2.2.1⟩
end
end Go.Proofs.YtjhbglklcddekaaGreatDoor
