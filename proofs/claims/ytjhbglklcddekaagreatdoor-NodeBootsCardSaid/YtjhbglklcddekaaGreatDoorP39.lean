/- Parts: N23. -/
import Derived.Test.YtjhbglklcddekaaGreatDoorP36
import Derived.Test.YtjhbglklcddekaaGreatDoorP37
set_option linter.all false
set_option maxRecDepth 100000
set_option maxHeartbeats 16000000
namespace Go.Proofs.YtjhbglklcddekaaGreatDoor
open Go.RowKit Go.Proofs.Tryz
section
def qn23_0 : List Nat := [0, 1, 2, 6, 7, 8, 10, 23, 91, 97]
def qn23_1 : Plan := lin [0, 4, 8, 12, 20, 24, 28, 17, 33, 36, 41, 46, 48, 52, 56, 60, 64, 71]
def qn23_2 : Plan := lin [0, 4, 8, 12, 20, 17, 25, 30, 35, 36, 40, 47]
open Go.RowKit Nd
namespace Nd
def hostB (h : Ho) : List V := [.d (.int .u16 (num h.en.tx : Nat)), .d (.int .i64 (h.en.tx.length : Nat)), .d (.bool h.en.ack), .d (.bool h.en.data.isSome), .d (.int .u8 (bD h.en.data)), .d (.int .i64 (h.en.rx.length : Nat)), .d (.int .u16 (num h.en.rx : Nat)), .d (.list 1 (dBs h.give)), .own 911 0, .d (.bool h.busy)]
def hostC (h : Ho) : List V := [.d (.int .u16 (num h.en.tx : Nat)), .d (.int .i64 (h.en.tx.length : Nat)), .d (.bool h.en.ack), .d (.bool h.en.data.isSome), .d (.int .u8 (bD h.en.data)), .d (.int .i64 (h.en.rx.length : Nat)), .d (.int .u16 (num h.en.rx : Nat)), .d (.list 1 (dBs h.give)), .nils 0, .d (.bool h.busy)]
def HH (h : Ho) : List (Nat × Ob) := [(910, .hbox 5 1 (dBs h.got) 8 (hostC h))]
def NB.four (n : NB) : Prop := ∃ a b c d, n.ls = [a, b, c, d]
theorem four_at {k : Nat} (hk : k < 4) (l : Lk) : ∃ a b c d, at4 k l = [a, b, c, d] := by
  rcases four_k hk with rfl | rfl | rfl | rfl <;> exact ⟨_, _, _, _, rfl⟩
theorem Ho.load_ok (h : Ho) (hok : h.en.ok) : h.load.en.ok := by
  unfold Ho.load
  split
  · exact hok
  · split
    · dsimp only
      split
      · exact ok0
      · exact ⟨hok.txl, hok.last, hok.first, hok.rxl, hok.rx0, hok.rx1⟩
    · exact hok
end Nd
attribute [local irreducible] TR TC
theorem hstep_fn (gl : List (Nat × List D)) (k : Nat) (h : Ho) (n : NB) (hok : h.en.ok) (n1 n2 n3 : NB) (bit back : Bool) (e2 : Se) (A B C : D) (hq : h.load.en.next = (e2, bit)) (hgot : h.got.length ≤ 1000000) (hn : n.four) (hn1 : n1.four) (hn2 : n2.four) (hn3 : n3.four)
    (cR : FnE prog gl 19 [.ptr 900 0, .d (.int .i64 k), .d (.int .i64 (if bit then 1 else 0))] (NH n) (fun v H1 => v = .d A ∧ H1 = NH n1))
    (cS : FnE prog gl 18 [.ptr 900 0] (NH n1) (fun v H1 => v = .d B ∧ H1 = NH n2))
    (cT : FnE prog gl 17 [.ptr 900 0, .d (.int .i64 k)] (NH n2) (fun v H1 => v = .tup [.d (.int .i64 (if back then 1 else 0)), .d C] ∧ H1 = NH n3)) :
    FnE prog gl 12 [.ptr 910 0, .ptr 900 0, .d (.int .i64 k)] (HH h ++ NH n) (fun v H1 => v = .tup [] ∧ H1 = HH (Ho.heard { h.load with en := (e2.hear back).1 } (e2.hear back).2) ++ NH n3) := by
  have hok1 := Ho.load_ok h hok
  have c1 := rsend_fn gl h.en
  have hlg : (dBs h.got).length = h.got.length := dBs_len _
  obtain ⟨a0, b0', c0, d0, hn⟩ := hn
  obtain ⟨a1, b1, c1', d1, hn1⟩ := hn1
  obtain ⟨a2, b2, c2, d2, hn2⟩ := hn2
  obtain ⟨a3, b3, c3, d3, hn3⟩ := hn3
  obtain ⟨nl, nb, no, nm, ns, nr⟩ := n
  obtain ⟨nl1, nb1, no1, nm1, ns1, nr1⟩ := n1
  obtain ⟨nl2, nb2, no2, nm2, ns2, nr2⟩ := n2
  obtain ⟨nl3, nb3, no3, nm3, ns3, nr3⟩ := n3
  dsimp only at hn hn1 hn2 hn3
  subst hn hn1 hn2 hn3
  unfold HH
  (refine y_entere func12 ntmps12 results12 fun w M E b0 => ?_)
  refine tc_wk (wk_hbox_out (n := 910) (q := 911) rfl rfl) ?_
  simp only [hostC, List.set_cons_succ, List.set_cons_zero]
  refine tc_cut (ι := Unit) (fun _ => ⟨[(0, .ptr 910 0), (1, .ptr 900 0), (2, .d (.int .i64 k))], (910, .box (hostB h.load)) :: (911, .row 5 1 false (dBs h.got) 0) :: NH ⟨nl, nb, no, nm, [a0, b0', c0, d0], nr⟩, gl⟩) (fun _ => True) ?_ ?_
  · clear cR cS cT hq hok1
    obtain ⟨⟨tx, ack, data, rx⟩, give, got, busy⟩ := h
    dsimp only at *
    cases busy with
    | true =>
      (repeat' first | refine yyp ?_; try refine s_bu ?_ ?_ <;> intro hb | refine yy ?_ | refine at_nil ?_; refine z_nil qn23_0 ?_ | refine tc_seq fun K hK => ?_ | refine tc_at 1 ?_; refine z_draw [17] qn23_1 ?_ | refine tc_at 14 ?_; refine z_draw [8, 11] qn23_2 ?_ | apply_assumption -exfalso -symm)
      exact ⟨(), trivial, y_wk⟩
    | false =>
      cases give with
      | nil =>
        (repeat' first | refine yyp ?_; try refine s_bu ?_ ?_ <;> intro hb | refine yy ?_ | refine yyc ?_ | refine at_nil ?_; refine z_nil qn23_0 ?_ | refine tc_seq fun K hK => ?_ | refine tc_at 1 ?_; refine z_draw [17] qn23_1 ?_ | refine tc_at 14 ?_; refine z_draw [8, 11] qn23_2 ?_ | apply_assumption -exfalso -symm)
        exact ⟨(), trivial, y_wk⟩
      | cons b g =>
        have c1 := c1 b hok
        have hdg := dBs_len g
        have hb : b.toNat < 256 := b.toNat_lt
        have eg : ((dB b :: dBs g).drop 1).take ((dB b :: dBs g).length - 1) = dBs g := by simp
        cases data
        all_goals
          simp only [Option.isSome_none, Option.isSome_some, Bool.false_eq_true, if_true, if_false, dSe, se0, num, bD_none, bD_some, List.length_nil] at c1
          simp only [dBs_cons]
          ((repeat' first | refine tc_at 3 ?_; refine halt ?_ | refine yyp ?_; try refine s_bu ?_ ?_ <;> intro hb | refine yy ?_ | refine yyc ?_ | refine at_call 42 ?_; refine y_call (hc := c1) ?_ | refine at_nil ?_; refine z_nil qn23_0 ?_ | refine tc_seq fun K hK => ?_ | refine tc_at 1 ?_; refine z_draw [17] qn23_1 ?_ | refine tc_at 14 ?_; refine z_draw [8, 11] qn23_2 ?_ | apply_assumption -exfalso -symm); all_goals try refine unhalt ?_)
          rw [eg]
          (repeat' first | refine yyp ?_; try refine s_bu ?_ ?_ <;> intro hb | refine yy ?_ | refine at_nil ?_; refine z_nil qn23_0 ?_ | refine tc_seq fun K hK => ?_ | refine tc_at 1 ?_; refine z_draw [17] qn23_1 ?_ | refine tc_at 14 ?_; refine z_draw [8, 11] qn23_2 ?_ | apply_assumption -exfalso -symm)
          exact ⟨(), trivial, y_wk⟩
  · have e1 := rtx_fn gl h.load.en hok1
    rw [hq] at e1
    have hok2 := hok1.next
    rw [hq] at hok2
    have e3 := rrx_fn gl e2 back hok2
    have hok3 := hok2.hear back
    have hgl : h.load.got = h.got := by
      unfold Ho.load
      split
      · rfl
      · split <;> rfl
    obtain ⟨⟨en3, hd⟩, hq3⟩ : ∃ x, e2.hear back = x := ⟨_, rfl⟩
    rw [hq3] at e3 hok3 ⊢
    generalize h.load = h1 at *
    obtain ⟨⟨tx, ack, data, rx⟩, give, got, busy⟩ := h1
    obtain ⟨tx3, ack3, data3, rx3⟩ := en3
    dsimp only at hgl
    subst hgl
    simp only [dSe] at e1 e3
    intro _ _
    dsimp only [hostB]
    cases hd with
    | none =>
      simp only [dHeard] at e3
      ((repeat' first | refine tr_at 6 ?_; (refine z_alloc 1006 ?_) | refine tr_at 67 ?_; refine y_callE (hc := cR) ?_ | refine tr_at 69 ?_; refine y_callE (hc := cS) ?_ | refine tr_at 73 ?_; refine y_callE (hc := cT) ?_ | refine tr_at 10 ?_; (refine z_alloc 1010 ?_) | refine tc_at 13 ?_; refine halt ?_ | refine yyp ?_; try refine s_bu ?_ ?_ <;> intro hb | refine yy ?_ | refine at_call 43 ?_; refine y_call (hc := e1) ?_ | refine at_call 44 ?_; refine y_call (hc := e3) ?_ | refine at_nil ?_; refine z_nil qn23_0 ?_ | refine tc_seq fun K hK => ?_ | refine tc_at 1 ?_; refine z_draw [17] qn23_1 ?_ | refine tc_at 14 ?_; refine z_draw [8, 11] qn23_2 ?_ | apply_assumption -exfalso -symm); all_goals try refine unhalt ?_)
      refine tc_wk (wk_hbox_in (n := 910) (q := 911) (i := 8) rfl rfl rfl rfl (by (repeat (first | exact Drop.nil | apply Drop.drop rfl | apply Drop.take rfl)); fail_if_success intros) rfl) ?_
      (repeat' first | refine yyp ?_; try refine s_bu ?_ ?_ <;> intro hb | refine yy ?_ | refine at_nil ?_; refine z_nil qn23_0 ?_ | refine tc_seq fun K hK => ?_ | refine tc_at 1 ?_; refine z_draw [17] qn23_1 ?_ | refine tc_at 14 ?_; refine z_draw [8, 11] qn23_2 ?_ | apply_assumption -exfalso -symm)
      exact y_endn ⟨rfl, rfl⟩
    | bad =>
      simp only [dHeard] at e3
      ((repeat' first | refine tr_at 6 ?_; (refine z_alloc 1006 ?_) | refine tr_at 67 ?_; refine y_callE (hc := cR) ?_ | refine tr_at 69 ?_; refine y_callE (hc := cS) ?_ | refine tr_at 73 ?_; refine y_callE (hc := cT) ?_ | refine tr_at 10 ?_; (refine z_alloc 1010 ?_) | refine tc_at 13 ?_; refine halt ?_ | refine yyp ?_; try refine s_bu ?_ ?_ <;> intro hb | refine yy ?_ | refine at_call 43 ?_; refine y_call (hc := e1) ?_ | refine at_call 44 ?_; refine y_call (hc := e3) ?_ | refine at_nil ?_; refine z_nil qn23_0 ?_ | refine tc_seq fun K hK => ?_ | refine tc_at 1 ?_; refine z_draw [17] qn23_1 ?_ | refine tc_at 14 ?_; refine z_draw [8, 11] qn23_2 ?_ | apply_assumption -exfalso -symm); all_goals try refine unhalt ?_)
      refine tc_wk (wk_hbox_in (n := 910) (q := 911) (i := 8) rfl rfl rfl rfl (by (repeat (first | exact Drop.nil | apply Drop.drop rfl | apply Drop.take rfl)); fail_if_success intros) rfl) ?_
      (repeat' first | refine yyp ?_; try refine s_bu ?_ ?_ <;> intro hb | refine yy ?_ | refine at_nil ?_; refine z_nil qn23_0 ?_ | refine tc_seq fun K hK => ?_ | refine tc_at 1 ?_; refine z_draw [17] qn23_1 ?_ | refine tc_at 14 ?_; refine z_draw [8, 11] qn23_2 ?_ | apply_assumption -exfalso -symm)
      exact y_endn ⟨rfl, rfl⟩
    | ack =>
      simp only [dHeard] at e3
      ((repeat' first | refine tr_at 6 ?_; (refine z_alloc 1006 ?_) | refine tr_at 67 ?_; refine y_callE (hc := cR) ?_ | refine tr_at 69 ?_; refine y_callE (hc := cS) ?_ | refine tr_at 73 ?_; refine y_callE (hc := cT) ?_ | refine tr_at 10 ?_; (refine z_alloc 1010 ?_) | refine tc_at 13 ?_; refine halt ?_ | refine yyp ?_; try refine s_bu ?_ ?_ <;> intro hb | refine yy ?_ | refine at_call 43 ?_; refine y_call (hc := e1) ?_ | refine at_call 44 ?_; refine y_call (hc := e3) ?_ | refine at_nil ?_; refine z_nil qn23_0 ?_ | refine tc_seq fun K hK => ?_ | refine tc_at 1 ?_; refine z_draw [17] qn23_1 ?_ | refine tc_at 14 ?_; refine z_draw [8, 11] qn23_2 ?_ | apply_assumption -exfalso -symm); all_goals try refine unhalt ?_)
      refine tc_wk (wk_hbox_in (n := 910) (q := 911) (i := 8) rfl rfl rfl rfl (by (repeat (first | exact Drop.nil | apply Drop.drop rfl | apply Drop.take rfl)); fail_if_success intros) rfl) ?_
      (repeat' first | refine yyp ?_; try refine s_bu ?_ ?_ <;> intro hb | refine yy ?_ | refine at_nil ?_; refine z_nil qn23_0 ?_ | refine tc_seq fun K hK => ?_ | refine tc_at 1 ?_; refine z_draw [17] qn23_1 ?_ | refine tc_at 14 ?_; refine z_draw [8, 11] qn23_2 ?_ | apply_assumption -exfalso -symm)
      exact y_endn ⟨rfl, rfl⟩
    | byte x =>
      have hx : x.toNat < 256 := x.toNat_lt
      have e4 := rack_fn gl ⟨tx3, ack3, data3, rx3⟩ hok3
      have ea : dBs h.got ++ [dB x] = dBs (h.got ++ [x]) := by simp [dBs]
      cases ack3
      all_goals
        simp only [dSe, se0, num, List.length_nil, Option.isSome_none, bD_none, Bool.false_eq_true, if_true, if_false] at e4
        simp only [dHeard] at e3
        ((repeat' first | refine tr_at 6 ?_; (refine z_alloc 1006 ?_) | refine tr_at 67 ?_; refine y_callE (hc := cR) ?_ | refine tr_at 69 ?_; refine y_callE (hc := cS) ?_ | refine tr_at 73 ?_; refine y_callE (hc := cT) ?_ | refine tr_at 10 ?_; (refine z_alloc 1010 ?_) | refine tc_at 13 ?_; refine halt ?_ | refine yyp ?_; try refine s_bu ?_ ?_ <;> intro hb | refine yy ?_ | refine at_call 43 ?_; refine y_call (hc := e1) ?_ | refine at_call 44 ?_; refine y_call (hc := e3) ?_ | refine at_nil ?_; refine z_nil qn23_0 ?_ | refine tc_seq fun K hK => ?_ | refine tc_at 1 ?_; refine z_draw [17] qn23_1 ?_ | refine tc_at 14 ?_; refine z_draw [8, 11] qn23_2 ?_ | apply_assumption -exfalso -symm); all_goals try refine unhalt ?_)
        ((repeat' first | refine tr_at 105 ?_; (refine z_lit 1105 ?_) | refine tc_at 15 ?_; refine halt ?_ | refine yyp ?_; try refine s_bu ?_ ?_ <;> intro hb | refine yy ?_ | (refine at_append ?_; first | (refine z_append (fun kv => ?_)) | (refine z_append_suf (fun sx sp kv hsx hsp hsl => ?_))) | refine at_nil ?_; refine z_nil qn23_0 ?_ | refine tc_seq fun K hK => ?_ | refine tc_at 1 ?_; refine z_draw [17] qn23_1 ?_ | refine tc_at 14 ?_; refine z_draw [8, 11] qn23_2 ?_ | apply_assumption -exfalso -symm); all_goals try refine unhalt ?_)
        refine tc_endsW ?_
        (repeat' first | refine yyp ?_; try refine s_bu ?_ ?_ <;> intro hb | refine yy ?_ | refine at_call 45 ?_; refine y_call (hc := e4) ?_ | refine at_nil ?_; refine z_nil qn23_0 ?_ | refine tc_seq fun K hK => ?_ | refine tc_at 1 ?_; refine z_draw [17] qn23_1 ?_ | refine tc_at 14 ?_; refine z_draw [8, 11] qn23_2 ?_ | apply_assumption -exfalso -symm)
        rw [show dBs h.got ++ [D.int .u8 ((x.toNat : Nat) : Int)] = dBs (h.got ++ [x]) from ea]
        refine endsW (wk_hbox_in (n := 910) (q := 911) (i := 8) rfl rfl rfl rfl (by (repeat (first | exact Drop.nil | apply Drop.drop rfl | apply Drop.take rfl)); fail_if_success intros) rfl) ?_
        exact y_endn ⟨rfl, rfl⟩
end
end Go.Proofs.YtjhbglklcddekaaGreatDoor
