/- Parts: NW6, NW9, NW10. -/
import Derived.Test.YtjhbglklcddekaaGreatDoorV32
import Derived.Test.YtjhbglklcddekaaGreatDoorV14
import Derived.Test.YtjhbglklcddekaaGreatDoorV29
import Derived.Test.YtjhbglklcddekaaGreatDoorV15
set_option linter.all false
set_option maxRecDepth 100000
set_option maxHeartbeats 16000000
namespace Go.Proofs.YtjhbglklcddekaaGreatDoor
open Go.RowKit Go.Proofs.Tryz
section
def qnw6_0 : List Nat := [0, 2, 3, 4, 5, 6]
open Go.RowKit Nd
attribute [local irreducible] TR TC
theorem clone_own (gl : List (Nat × List D)) (l : List D) (hl : l.length ≤ 1000000) : FnE prog gl 48 [.d (.list 1 l)] [] (fun r H1 => r = .own 2 0 ∧ H1 = [(2, .row 5 1 true l 0)]) := by
  refine FnE.fix ?_
  (refine y_entere func48 ntmps48 results48 fun w M E b0 => ?_)
  (repeat' first | refine tr_at 4 ?_; (refine z_slice_nil (fun hn => ?_) ?_) | refine tr_at 5 ?_; (refine z_lit 2 ?_) | refine yyp ?_; try refine s_bu ?_ ?_ <;> intro hb | refine yy ?_ | (refine at_append ?_; first | (refine z_append (fun kv => ?_)) | (refine z_append_suf (fun sx sp kv hsx hsp hsl => ?_))) | refine at_nil ?_; refine z_nil qnw6_0 ?_ | refine tc_seq fun K hK => ?_ | apply_assumption -exfalso -symm)
  · subst hn
    refine tc_row (t := 2) (e := 5) (sz := 1) rfl rfl ?_
    refine tc_ret (y_orete ⟨0, ?_, rfl⟩)
    rfl
  · refine tc_ret (y_orete ⟨kv, ?_, rfl⟩)
    rfl
theorem clone_row (gl : List (Nat × List D)) (l : List D) (hl : l.length ≤ 1000000) : FnE prog gl 48 [.own 911 0] [(911, .row 5 1 false l 0)] (fun r H1 => r = .d (.list 1 l) ∧ H1 = [(911, .row 5 1 false l 0)]) := by
  (refine y_entere func48 ntmps48 results48 fun w M E b0 => ?_)
  (repeat' first | refine tr_at 4 ?_; (refine z_own_nil (fun hn => ?_) ?_) | refine tr_at 5 ?_; (refine z_lit 105 ?_) | refine tr_at 7 ?_; (refine z_append_row (fun kv => ?_)) | refine yyp ?_; try refine s_bu ?_ ?_ <;> intro hb | refine yy ?_ | refine at_nil ?_; refine z_nil qnw6_0 ?_ | refine tc_seq fun K hK => ?_ | apply_assumption -exfalso -symm)
  · subst hn
    (refine tc_ret (y_rete ⟨?_, rfl⟩))
    rfl
  · (refine tc_ret (y_rete ⟨?_, rfl⟩))
    rfl
theorem netgive_fn (gl : List (Nat × List D)) (t : Nat) (h : Ho) (n : NB) (hn : n.four) (b : List UInt8) (hb : b.length + h.give.length ≤ 1000000) : FnE prog gl 24 [.ptr 960 0, .d (.list 1 (dBs b))] (NetH t h n) (fun v H1 => v = .d (.int .i64 0) ∧ H1 = NetH t { h with give := h.give ++ b } n) := by
  have c0 := netnone_fn gl t h n hn
  have c1 := clone_own gl (dBs h.give) (by rw [dBs_len]; omega)
  obtain ⟨a0, b0', c0', d0, hn⟩ := hn
  obtain ⟨nl, nb, no, nm, ns, nr⟩ := n
  obtain ⟨⟨tx, ack, data, rx⟩, give, got, busy⟩ := h
  dsimp only at hn hb c1
  subst hn
  have l1 : (dBs b).length = b.length := dBs_len _
  have l2 : (dBs give).length = give.length := dBs_len _
  have ea : dBs give ++ dBs b = dBs (give ++ b) := by simp [dBs]
  unfold NetH netC at *
  unfold HH at *
  simp only [hostC, List.cons_append, List.nil_append] at *
  (refine y_entere func24 ntmps24 results24 fun w M E b0 => ?_)
  ((repeat' first | refine tr_at 6 ?_; refine y_callE (hc := c0) ?_; try refine s_bu ?_ ?_ <;> intro hb | refine tc_at 3 ?_; refine halt ?_ | refine yyp ?_; try refine s_bu ?_ ?_ <;> intro hb | refine yy ?_ | refine at_nil ?_; refine z_nil [0, 1, 4, 5, 6, 7, 18] ?_ | refine tc_seq fun K hK => ?_ | refine tc_at 5 ?_; refine z_draw [13, 16] (linT [0, 4, 8, 16, 20, 24, 48, 29, 32, 36, 41] (.two 3 (lin [46, 55, 56, 60, 67]) 11 (.mid 3 (lin [55, 56, 60, 67]) 13 (lin [13, 56, 60, 67])))) ?_ | apply_assumption -exfalso -symm); all_goals try refine unhalt ?_)
  refine tc_wk (wk_hbox_out (n := 910) (q := 911) rfl rfl) ?_
  simp only [List.set_cons_succ, List.set_cons_zero]
  (repeat' first | refine tr_at 30 ?_; refine y_callG (hc := c1) ?_ | refine yyp ?_; try refine s_bu ?_ ?_ <;> intro hb | refine yy ?_ | (refine at_append ?_; first | (refine z_append (fun kv => ?_)) | (refine z_append_suf (fun sx sp kv hsx hsp hsl => ?_))) | refine at_nil ?_; refine z_nil [0, 1, 4, 5, 6, 7, 18] ?_ | refine tr_two ?_ ?_ | refine tr_mid ?_ ?_ | refine tc_seq fun K hK => ?_ | refine tc_at 5 ?_; refine z_draw [13, 16] (linT [0, 4, 8, 16, 20, 24, 48, 29, 32, 36, 41] (.two 3 (lin [46, 55, 56, 60, 67]) 11 (.mid 3 (lin [55, 56, 60, 67]) 13 (lin [13, 56, 60, 67])))) ?_ | apply_assumption -exfalso -symm)
  all_goals
    rw [ea]
    refine tc_wk (wk_dcell 910 7 (x := .list 1 (dBs (give ++ b))) rfl rfl (ToD.own rfl)) ?_
    refine tc_wk (wk_hbox_in (n := 910) (q := 911) (i := 8) rfl rfl rfl rfl (by (repeat (first | exact Drop.nil | apply Drop.drop rfl | apply Drop.take rfl)); fail_if_success intros) rfl) ?_
    (refine tc_ret (y_rete ⟨?_, rfl⟩))
    rfl
theorem netgot_fn (gl : List (Nat × List D)) (t : Nat) (h : Ho) (n : NB) (hn : n.four) (hb : h.got.length ≤ 1000000) : FnE prog gl 25 [.ptr 960 0] (NetH t h n) (fun v H1 => v = .d (.list 1 (dBs h.got)) ∧ H1 = NetH t h n) := by
  have c0 := netnone_fn gl t h n hn
  have c1 := clone_row gl (dBs h.got) (by rw [dBs_len]; omega)
  obtain ⟨a0, b0', c0', d0, hn⟩ := hn
  obtain ⟨nl, nb, no, nm, ns, nr⟩ := n
  obtain ⟨⟨tx, ack, data, rx⟩, give, got, busy⟩ := h
  dsimp only at hn hb c1
  subst hn
  unfold NetH netC at *
  unfold HH at *
  simp only [hostC, List.cons_append, List.nil_append] at *
  (refine y_entere func25 ntmps25 results25 fun w M E b0 => ?_)
  ((repeat' first | refine tr_at 4 ?_; refine y_callE (hc := c0) ?_; try refine s_bu ?_ ?_ <;> intro hb | refine tc_at 3 ?_; refine halt ?_ | refine yyp ?_; try refine s_bu ?_ ?_ <;> intro hb | refine yy ?_ | refine at_nil ?_; refine z_nil qnw6_0 ?_ | refine tc_seq fun K hK => ?_ | apply_assumption -exfalso -symm); all_goals try refine unhalt ?_)
  refine tc_wk (wk_hbox_out (n := 910) (q := 911) rfl rfl) ?_
  simp only [List.set_cons_succ, List.set_cons_zero]
  (repeat' first | refine tr_at 12 ?_; refine y_callE (hc := c1) ?_ | refine yyp ?_; try refine s_bu ?_ ?_ <;> intro hb | refine yy ?_ | refine at_nil ?_; refine z_nil qnw6_0 ?_ | refine tc_seq fun K hK => ?_ | apply_assumption -exfalso -symm)
  refine tc_wk (wk_hbox_in (n := 910) (q := 911) (i := 8) rfl rfl rfl rfl (by (repeat (first | exact Drop.nil | apply Drop.drop rfl | apply Drop.take rfl)); fail_if_success intros) rfl) ?_
  (refine tc_ret (y_rete ⟨?_, rfl⟩))
  rfl
end
section
def qnw9_0 : List Nat := [0, 2, 4, 5, 6, 37, 41, 42, 43, 44, 49]
open Go.RowKit Nd
attribute [local irreducible] TR TC
theorem netidle_fn (gl : List (Nat × List D)) (t : Nat) (got mem : List UInt8) : FnE prog gl 28 [.ptr 960 0] (NetH t ⟨se0, [], got, false⟩ ⟨-1, [], [], mem, [lk0, lk0, lk0, lk0], none⟩) (fun v H1 => v = .d (.bool true) ∧ H1 = NetH t ⟨se0, [], got, false⟩ ⟨-1, [], [], mem, [lk0, lk0, lk0, lk0], none⟩) := by
  have c1 := nidle_fn gl mem
  unfold NetH netC at *
  unfold HH at *
  simp only [hostC, se0, num, List.length_nil, Option.isSome_none, bD_none, List.cons_append, List.nil_append] at *
  (refine y_entere func28 ntmps28 results28 fun w M E b0 => ?_)
  refine tc_wk (wk_hbox_out (n := 910) (q := 911) rfl rfl) ?_
  simp only [List.set_cons_succ, List.set_cons_zero]
  ((repeat' first | refine tr_at 6 ?_; (refine tr_keep [0, 2, 4, 5, 6, 7, 8, 9, 10, 11, 12, 13, 14, 15, 16, 17, 18, 19, 20, 21, 22, 23, 24, 25, 26, 27, 28, 29, 30, 31, 32, 33, 34, 35, 36, 37, 41, 42, 43, 44, 49] ?_); refine y_inline func62 ntmps62 results62 fun tm sy => ?_; simp only [slots, shift, zipPs, List.nil_append, List.cons_append, List.append_nil, List.map_cons, List.map_nil, List.zipIdx_cons, List.zipIdx_nil, Nat.reduceAdd]; refine halt ?_ | refine yyp ?_; try refine s_bu ?_ ?_ <;> intro hb | refine yy ?_ | refine at_nil ?_; refine z_nil qnw9_0 ?_ | refine tc_seq fun K hK => ?_ | apply_assumption -exfalso -symm); all_goals try refine unhalt ?_)
  (repeat' first | refine yyp ?_; try refine s_bu ?_ ?_ <;> intro hb | refine yyq ?_; try refine s_bu ?_ ?_ <;> intro hb | refine yy ?_ | refine at_nil ?_; refine z_nil [0, 2, 3, 4, 5, 6] ?_ | refine tc_seq fun K hK => ?_ | apply_assumption -exfalso -symm)
  (refine tc_ret (y_reti ?_))
  simp only [oneOf]
  (repeat' first | refine yyp ?_; try refine s_bu ?_ ?_ <;> intro hb | refine yyc ?_ | refine yy2 ?_ ?_ <;> intro hcmp | refine at_nil ?_; refine z_nil qnw9_0 ?_)
  (repeat' first | refine yyp ?_; try refine s_bu ?_ ?_ <;> intro hb | refine yyw ?_; try refine s_bu ?_ ?_ <;> intro hb | refine yy ?_ | refine at_nil ?_; refine z_nil qnw9_0 ?_ | refine tc_seq fun K hK => ?_ | apply_assumption -exfalso -symm)
  · refine tc_rounds 3 (rounds_next fun K1 hK1 => ?_)
    (repeat' first | refine tr_at 48 ?_; refine y_callE (hc := c1) ?_; try refine s_bu ?_ ?_ <;> intro hb | refine yyp ?_; try refine s_bu ?_ ?_ <;> intro hb | refine yyw ?_; try refine s_bu ?_ ?_ <;> intro hb | refine yy ?_ | refine yyv ?_; try refine s_bu ?_ ?_ <;> intro hb | refine at_nil ?_; refine z_nil qnw9_0 ?_ | refine tc_seq fun K hK => ?_ | apply_assumption -exfalso -symm)
    refine tc_wk (wk_hbox_in (n := 910) (q := 911) (i := 8) rfl rfl rfl rfl (by (repeat (first | exact Drop.nil | apply Drop.drop rfl | apply Drop.take rfl)); fail_if_success intros) rfl) ?_
    (refine tc_ret (y_rete ⟨?_, rfl⟩))
    rfl
  · exact absurd (by simp) hcmp
end
section
open Go.RowKit Nd
theorem q_nilIface {E : Set} {S : Sd} {dst : Option Tmp} {ty : TypeId} {pos : String} {af : Array Edge} {gd : Option (Nat × Bool)} : Swift E S ⟨dst, .assign (.const .nilIface), ty, pos, af, gd⟩ (.d (.raw .nilIface)) := Swift.mk fun β a w h => ⟨.nilIface, fun w' _ => rfl, rfl, rfl⟩
def noM : Nat → Nat → Prop := fun _ _ => False
attribute [local irreducible] TR TC
theorem newat_fn (gl : List (Nat × List D)) (p : Addr) : FnE prog gl 67 [.d (.agg [.int .i64 0, .int .i64 0]), .d (.ref [.ref [.int .i64 1, .list 4 [], .int .i64 0, .int .i64 0, .list 1 [.raw (.pointer (some p))]] 0] 0)] []
    (fun v H1 => v = .ifc 150 (.d (.agg [.raw (.pointer (some p)), .int .i64 0, .int .i64 0])) ∧ H1 = []) := by
  (refine y_entere func67 ntmps67 results67 fun w M E b0 => ?_)
  (repeat' first | refine tr_at 2 ?_; (refine z_box 102 ?_) | refine tr_at 3 ?_; (refine z_p q_nilIface ?_) | refine yyp ?_; try refine s_bu ?_ ?_ <;> intro hb | refine yyw ?_; try refine s_bu ?_ ?_ <;> intro hb | refine yy ?_ | refine at_nil ?_; refine z_nil [0, 1, 2, 3, 4, 5, 6] ?_ | refine tc_seq fun K hK => ?_ | refine tc_at 1 ?_; refine z_draw [] (lin [16, 32, 40, 1, 4, 8, 13, 21, 24, 29, 37, 45, 48, 52, 56]) ?_ | apply_assumption -exfalso -symm)
  (refine tc_ret (y_rete ⟨?_, rfl⟩))
  rfl
theorem keeps_noM {w : World} {M : Nat → Nat → Prop} : Keeps w M w noM := ⟨fun _ _ _ _ h => ⟨id, h⟩, fun _ _ _ _ h => ⟨fun _ => id, h⟩⟩
theorem reads_pre {w : World} {b : Nat} {vs us : List Value} {t : TypeId} (h : w.heap[b]? = some (.cells (vs ++ us).toArray t (0, 0))) : Reads w noM (some ⟨b, 0, none⟩) vs := fun j y hj => ⟨b, 0, rfl, id, by
  rw [Nat.zero_add]
  exact box_cell h (by rw [List.getElem?_append_left (List.getElem?_eq_some_iff.1 hj).1]; exact hj)⟩
theorem mut_noM (β : Nat → Hd) : Mut noM β [] = noM := by
  funext b o
  apply propext
  constructor
  · rintro (h | ⟨n, ob, q, _⟩)
    · exact h
    · cases q
  · exact .inl
theorem at_rep {C : Ctx} {env : List (Nat × V)} {H : List (Nat × Ob)} {gl : List (Nat × List D)} {β : Nat → Hd} {a : Act} {w : World} {c N m nd : Nat} {r1 r2 : List V} (h : StB C β ⟨env, H, gl⟩ a w) (hc : look c H = some (.box [.ptr N 0]))
    (hN : look N H = some (.box (.d (.int .i64 1) :: .d (.list 4 []) :: .d (.int .i64 0) :: .d (.int .i64 0) :: .bsl m 0 1 :: r1))) (hm : look m H = some (.sbox (.ptr nd 0 :: r2))) {u : Value} (hu : RepV w (Mut C.M0 β H) β H (.ptr c 0) u) :
    ∃ b, (β nd).v = .pointer (some ⟨b, 0, none⟩) ∧ RepD w noM (.ref [.ref [.int .i64 1, .list 4 [], .int .i64 0, .int .i64 0, .list 1 [.raw (.pointer (some ⟨b, 0, none⟩))]] 0] 0) u := by
  obtain ⟨bc, c1, rfl⟩ := hu
  obtain ⟨bc', vc, tc, c2, c3, c4⟩ := h.obs c _ hc
  rw [c1] at c2
  cases c2
  obtain ⟨uN, rc, rfl, cN, c5⟩ := c4
  obtain ⟨bN, n1, rfl⟩ := cN
  obtain ⟨bN', vN, tN, n2, n3, n4⟩ := h.obs N _ hN
  rw [n1] at n2
  cases n2
  obtain ⟨x0, _, rfl, k0, x1, _, rfl, k1, x2, _, rfl, k2, x3, _, rfl, k3, x4, vr, rfl, k4, _⟩ := n4
  obtain ⟨bm, cap, m1, rfl, m2, m3⟩ := k4
  obtain ⟨bm', vm, um, tm, m4, m5, m6⟩ := h.obs m _ hm
  rw [m1] at m4
  cases m4
  obtain ⟨y0, vm', rfl, d0, _⟩ := m6
  obtain ⟨bd, d1, rfl⟩ := d0
  have k1' : RepD w noM (.list 4 []) x1 := RepD.keep keeps_noM _ _ k1
  have o1 : x1.oneCell' = true := by obtain ⟨_, _, _, rfl, _⟩ := k1'; rfl
  simp only [RepV, RepD] at k0 k2 k3
  subst k0 k2 k3
  refine ⟨bd, d1, bc, 0, [.pointer (some ⟨bN, 0, none⟩)], rfl, ⟨_, [], rfl, rfl, ⟨bN, 0, [.int .i64 1, x1, .int .i64 0, .int .i64 0, .slice (some ⟨bm, 0, none⟩) 1 cap], rfl, ?_, reads_pre (us := vr) n3⟩, rfl⟩, reads_pre (us := rc) c3⟩
  refine ⟨_, _, rfl, rfl, rfl, _, _, rfl, o1, k1', _, _, rfl, rfl, rfl, _, _, rfl, rfl, rfl, _, [], rfl, rfl, ?_, rfl⟩
  refine ⟨some ⟨bm, 0, none⟩, cap, [.pointer (some ⟨bd, 0, none⟩)], rfl, m2, m3, (fun h => by cases h), ⟨_, [], rfl, rfl, ⟨rfl, rfl⟩, rfl⟩, ?_⟩
  exact reads_pre (us := vm' ++ um) (by simpa using m5)
section
variable {env : List (Nat × V)} {H : List (Nat × Ob)} {gl : List (Nat × List D)} {Q : Exit → Sd → Prop} {ops : Array Oper} {draw : Bool} {rest : Todo} {way : Way3} {ty : TypeId} {pos : String} {af : Array Edge} {gd : Option (Nat × Bool)}
theorem y_at {E : Set} {d c N m nd : Nat} {fx x : Operand} {ats : Array TypeId} {r1 r2 : List V} [hf : TFun prog 67] (hP : E.P = prog) (h : TR E draw ops Q rest ⟨(d, .ifc 150 (.agg [.ptr nd 0, .d (.int .i64 0), .d (.int .i64 0)])) :: env, H, gl⟩)
    (hfx : Sd.ev ⟨env, H, gl⟩ fx = some (.clo (.func 67) [] [.ptr c 0]) := by exact rfl) (hof : okOp fx = true := by exact rfl) (hx : Sd.ev ⟨env, H, gl⟩ x = some (.d (.agg [.int .i64 0, .int .i64 0])) := by exact rfl) (hox : okOp x = true := by exact rfl)
    (hc : look c H = some (.box [.ptr N 0]) := by exact rfl) (hN : look N H = some (.box (.d (.int .i64 1) :: .d (.list 4 []) :: .d (.int .i64 0) :: .d (.int .i64 0) :: .bsl m 0 1 :: r1)) := by exact rfl) (hm : look m H = some (.sbox (.ptr nd 0 :: r2)) := by exact rfl)
    (hd : d < E.C.nt := by exact ltd rfl) (hg : Sd.gd ⟨env, H, gl⟩ ops ⟨some d, .call { callee := .value fx, args := #[x], argTypes := ats }, ty, pos, af, gd⟩ = some true := by exact rfl) (hw : way.loud = true := by exact rfl) :
    TR E draw ops Q (.step ⟨some d, .call { callee := .value fx, args := #[x], argTypes := ats }, ty, pos, af, gd⟩ way rest) ⟨env, H, gl⟩ :=
  tr_callP rfl hd hg rfl hw (fun β a w hB => by
    obtain ⟨fs', gs', e1, e2, e3⟩ := hB.ev hfx hof
    simp only [RepL] at e2
    subst e2
    obtain ⟨u, _, rfl, hu, e4⟩ := e3
    simp only [RepL] at e4
    subst e4
    obtain ⟨b, hnd, hrep⟩ := at_rep hB hc hN hm hu
    have hxv : RepD w noM (.agg [.int .i64 0, .int .i64 0]) (a.eval x) := RepD.keep keeps_noM _ _ (hB.ev hx hox)
    have hrun := run_callV (P := E.P) (ty := ty) (pos := pos) (af := af) (gd := gd) (f := 67) (by rw [hP]; exact hf) a e1 [x] ats (some d) w
    refine ⟨_, _, hrun, ?_⟩
    rw [hP]
    have hL : RepL w (Mut noM β []) β [] [.d (.agg [.int .i64 0, .int .i64 0]), .d (.ref [.ref [.int .i64 1, .list 4 [], .int .i64 0, .int .i64 0, .list 1 [.raw (.pointer (some ⟨b, 0, none⟩))]] 0] 0)] ([] ++ [x].map a.eval ++ [u]) := by
      rw [mut_noM]
      exact ⟨_, _, rfl, hxv, _, _, rfl, hrep, rfl⟩
    refine ((newat_fn gl ⟨b, 0, none⟩) w noM β _ (fun b o hm => hm.elim) hL ⟨(fun n ob hl => by cases hl), (fun n m b ob ob' hne q1 q2 => by cases q1), (fun n ob b o hl hb' hm => by cases hl)⟩ ?_).mono ?_
    · rw [mut_noM]
      exact fun g cs hl => (hB.glob g cs hl).keep keeps_noM
    · rintro e w' ⟨v, y, H1, β1, ⟨rfl, rfl⟩, hok, rfl, hfr, _, _, _, hv⟩
      obtain ⟨z, rfl, us, rfl, p0, _, rfl, _, s0, p1, _, rfl, _, s1, p2, _, rfl, _, s2, s3⟩ := hv
      simp only [RepD, RepA] at s0 s1 s2 s3
      subst s1 s2 s3
      refine ⟨_, rfl, ?_, _, rfl, [p0, .int .i64 0, .int .i64 0], rfl, ?_, _, _, rfl, ⟨b, hnd, s0.1⟩, _, _, rfl, rfl, _, _, rfl, rfl, rfl⟩
      · have e0 : blks β [] = [] := rfl
        rw [e0] at hfr
        exact hfr.below
      · intro q hq
        rw [s0.1] at hq
        rcases List.mem_cons.1 hq with rfl | hq
        · rfl
        · rcases List.mem_cons.1 hq with rfl | hq
          · rfl
          · rcases List.mem_cons.1 hq with rfl | hq
            · rfl
            · cases hq) h
end
end
end Go.Proofs.YtjhbglklcddekaaGreatDoor
