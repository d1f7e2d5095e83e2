/- Parts: N13E, N13F, N13G, N14. -/
import Derived.Test.YtjhbglklcddekaaGreatDoorV18
import Derived.Test.YtjhbglklcddekaaGreatDoorV19
set_option linter.all false
set_option maxRecDepth 100000
set_option maxHeartbeats 16000000
namespace Go.Proofs.YtjhbglklcddekaaGreatDoor
open Go.RowKit Go.Proofs.Tryz
section
def qn13e_0 : List Nat := [0, 1, 2, 6, 7, 8, 9, 12, 32, 33, 44]
def qn13e_1 : Plan := lin [0, 4, 8, 12, 16, 21, 27]
open Go.RowKit Nd
attribute [local irreducible] TR TC
theorem nrx_ack2 (gl : List (Nat × List D)) (k : Nat) (hk : k < 4) (link : Int) (buf mem : List UInt8) (s s' : Se) (bit : Bool) (o o2 : UInt8) (out : List UInt8) (inb : Option UInt8) (hok : s.ok) (hq : s.hear bit = (s', .ack)) :
    FnE prog gl 19 [.ptr 900 0, .d (.int .i64 k), .d (.int .i64 (if bit then 1 else 0))] (NH ⟨link, buf, o :: o2 :: out, mem, at4 k ⟨s, true, inb⟩, none⟩) (fun v H1 => v = .d (.list 5 [actA 6 k 0]) ∧ H1 = NH ⟨link, buf, o2 :: out, mem, at4 k ⟨s', false, inb⟩, none⟩) := by
  have c0 := noff_fn gl k hk link buf (o :: o2 :: out) mem ⟨s, true, inb⟩ none
  have c1 := srx_fn gl s bit hok
  rw [hq] at c1
  clear hok hq
  generalize (if bit then (1 : Int) else 0) = bi at *
  simp only [dSe, dHeard] at c1
  rcases four_k hk with rfl | rfl | rfl | rfl
  all_goals
    (refine y_entere func19 ntmps19 results19 fun w M E b0 => ?_)
    ((repeat' first | refine tr_at 12 ?_; refine y_callE (hc := c0) ?_; try refine s_bu ?_ ?_ <;> intro hb | refine tc_at 3 ?_; refine halt ?_ | refine yyp ?_; try refine s_bu ?_ ?_ <;> intro hb | refine yy ?_ | refine at_nil ?_; refine z_nil qn13e_0 ?_ | refine tc_seq fun K hK => ?_ | refine tc_at 12 ?_; refine z_draw [] (lin [0, 4, 8, 12, 16, 21, 26]) ?_ | apply_assumption -exfalso -symm); all_goals try refine unhalt ?_)
    refine tc_wk (wk_hbox_out (n := 900) (q := 902) rfl rfl) ?_
    simp only [nodeC, coreD, four_links0, four_links1, four_links2, four_links3, lkD, seD, dSe, lk0, se0, num, dBs_cons, dBs_nil, bD_none, bD_some, Option.isSome_none, Option.isSome_some, Option.isNone_none, List.length_nil, List.map_append, List.map_cons, List.map_nil, List.cons_append, List.nil_append, List.append_assoc, List.set_cons_succ, List.set_cons_zero]
    ((repeat' first | refine tr_at 8 ?_; (refine z_alloc 1008 ?_) | refine tr_at 9 ?_; (refine z_alloc 1009 ?_) | refine tr_at 38 ?_; (refine tr_keep [0, 1, 2, 6, 7, 8, 9, 12, 32, 33, 35, 37, 44] ?_); refine y_inline func51 ntmps51 results51 fun tm sy => ?_; simp only [slots, shift, zipPs, List.nil_append, List.cons_append, List.append_nil, List.map_cons, List.map_nil, List.zipIdx_cons, List.zipIdx_nil, Nat.reduceAdd]; refine halt ?_ | refine yyp ?_; try refine s_bu ?_ ?_ <;> intro hb | refine yy ?_ | refine at_call 59 ?_; refine y_call (hc := c1) ?_ | refine at_nil ?_; refine z_nil qn13e_0 ?_ | refine tc_seq fun K hK => ?_ | refine tc_at 12 ?_; refine z_draw [6] qn13e_1 ?_ | apply_assumption -exfalso -symm); all_goals try refine unhalt ?_)
    (repeat' first | refine tr_at 17 ?_; (refine z_lit 2017 ?_) | refine tr_at 18 ?_; refine z_append0 2018 ?_ | refine yyp ?_; try refine s_bu ?_ ?_ <;> intro hb | refine yy ?_ | refine at_nil ?_; refine z_nil [0, 1, 2, 3, 8, 9] ?_ | refine tc_seq fun K hK => ?_ | apply_assumption -exfalso -symm)
    (refine y_endi ?_)
    ((repeat' first | refine tr_at 43 ?_; (refine tr_keep [0, 1, 2, 6, 7, 8, 9, 12, 32, 33, 39, 42, 44] ?_); refine y_inline func60 ntmps60 results60 fun tm sy => ?_; simp only [slots, shift, zipPs, List.nil_append, List.cons_append, List.append_nil, List.map_cons, List.map_nil, List.zipIdx_cons, List.zipIdx_nil, Nat.reduceAdd]; refine halt ?_ | refine yyp ?_; try refine s_bu ?_ ?_ <;> intro hb | refine yy ?_ | refine at_nil ?_; refine z_nil qn13e_0 ?_ | refine tc_seq fun K hK => ?_ | refine tc_at 12 ?_; refine z_draw [6] qn13e_1 ?_ | apply_assumption -exfalso -symm); all_goals try refine unhalt ?_)
    ((repeat' first | refine tc_at 4 ?_; refine halt ?_ | refine yyp ?_; try refine s_bu ?_ ?_ <;> intro hb | refine yy ?_ | refine at_nil ?_; refine z_nil [0, 1, 4, 5, 6, 7, 9, 17, 34, 57] ?_ | refine tc_seq fun K hK => ?_ | apply_assumption -exfalso -symm); all_goals try refine unhalt ?_)
    simp only [List.drop_succ_cons, List.drop_zero, List.length_cons, List.length_nil, Nat.add_sub_cancel, List.take_length, List.take_nil, Nat.sub_self, List.take_succ_cons]
    (repeat' first | refine yyp ?_; try refine s_bu ?_ ?_ <;> intro hb | refine yy ?_ | refine yyc ?_ | refine at_nil ?_; refine z_nil [0, 1, 4, 5, 6, 7, 9, 17, 34, 57] ?_ | refine tc_seq fun K hK => ?_ | apply_assumption -exfalso -symm)
    all_goals try (exfalso; simp only [List.length_cons, List.length_nil] at hcmp; omega)
    (refine tc_ret (y_reti ?_))
    ((repeat' first | refine tr_at 61 ?_; (refine tr_keep [0, 1, 2, 6, 7, 8, 9, 12, 32, 33, 44, 60, 61] ?_); refine y_inline func52 ntmps52 results52 fun tm sy => ?_; simp only [slots, shift, zipPs, List.nil_append, List.cons_append, List.append_nil, List.map_cons, List.map_nil, List.zipIdx_cons, List.zipIdx_nil, Nat.reduceAdd]; refine halt ?_ | refine yyp ?_; try refine s_bu ?_ ?_ <;> intro hb | refine yy ?_ | refine at_nil ?_; refine z_nil qn13e_0 ?_ | refine tc_seq fun K hK => ?_ | refine tc_at 12 ?_; refine z_draw [6] qn13e_1 ?_ | apply_assumption -exfalso -symm); all_goals try refine unhalt ?_)
    (repeat' first | refine yyp ?_; try refine s_bu ?_ ?_ <;> intro hb | refine yy ?_ | refine at_nil ?_; refine z_nil [0, 2, 3, 4, 5, 6] ?_ | refine tc_seq fun K hK => ?_ | apply_assumption -exfalso -symm)
    (refine tc_ret (y_reti ?_))
    (repeat' first | refine yyp ?_; try refine s_bu ?_ ?_ <;> intro hb | refine at_nil ?_; refine z_nil qn13e_0 ?_ | refine tc_seq fun K hK => ?_ | refine tc_at 12 ?_; refine z_draw [6] qn13e_1 ?_ | apply_assumption -exfalso -symm)
    refine tc_wk (wk_hbox_in (n := 900) (q := 902) (i := 115) rfl rfl rfl rfl (by (repeat (first | exact Drop.nil | apply Drop.drop rfl | apply Drop.take rfl)); fail_if_success intros) rfl) ?_
    (refine tc_ret (y_rete ⟨?_, rfl⟩))
    rfl
end
section
def qn13f_0 : List Nat := [0, 1, 2, 6, 7, 8, 9, 12, 32, 33, 44]
def qn13f_1 : Plan := lin [0, 4, 8, 12, 16, 21, 27]
open Go.RowKit Nd
attribute [local irreducible] TR TC
theorem nrx_byte0 (gl : List (Nat × List D)) (k : Nat) (hk : k < 4) (link : Int) (buf mem : List UInt8) (s s' : Se) (bit : Bool) (out : List UInt8) (busy : Bool) (b x : UInt8) (hok : s.ok) (hq : s.hear bit = (s', .byte b)) :
    FnE prog gl 19 [.ptr 900 0, .d (.int .i64 k), .d (.int .i64 (if bit then 1 else 0))] (NH ⟨link, buf, out, mem, at4 k ⟨s, busy, some x⟩, none⟩) (fun v H1 => v = .d (.list 5 [actA 5 k b.toNat]) ∧ H1 = NH ⟨link, buf, out, mem, at4 k ⟨s', busy, some x⟩, none⟩) := by
  have c0 := noff_fn gl k hk link buf (out) mem ⟨s, busy, some x⟩ none
  have c1 := srx_fn gl s bit hok
  rw [hq] at c1
  clear hok hq
  generalize (if bit then (1 : Int) else 0) = bi at *
  have hb : b.toNat < 256 := b.toNat_lt
  simp only [dSe, dHeard] at c1
  rcases four_k hk with rfl | rfl | rfl | rfl
  all_goals
    (refine y_entere func19 ntmps19 results19 fun w M E b0 => ?_)
    ((repeat' first | refine tr_at 12 ?_; refine y_callE (hc := c0) ?_; try refine s_bu ?_ ?_ <;> intro hb | refine tc_at 3 ?_; refine halt ?_ | refine yyp ?_; try refine s_bu ?_ ?_ <;> intro hb | refine yy ?_ | refine at_nil ?_; refine z_nil qn13f_0 ?_ | refine tc_seq fun K hK => ?_ | refine tc_at 12 ?_; refine z_draw [] (lin [0, 4, 8, 12, 16, 21, 26]) ?_ | apply_assumption -exfalso -symm); all_goals try refine unhalt ?_)
    refine tc_wk (wk_hbox_out (n := 900) (q := 902) rfl rfl) ?_
    simp only [nodeC, coreD, four_links0, four_links1, four_links2, four_links3, lkD, seD, dSe, lk0, se0, num, dBs_cons, dBs_nil, bD_none, bD_some, Option.isSome_none, Option.isSome_some, Option.isNone_none, List.length_nil, List.map_append, List.map_cons, List.map_nil, List.cons_append, List.nil_append, List.append_assoc, List.set_cons_succ, List.set_cons_zero]
    ((repeat' first | refine tr_at 8 ?_; (refine z_alloc 1008 ?_) | refine tr_at 9 ?_; (refine z_alloc 1009 ?_) | refine tr_at 52 ?_; (refine tr_keep [0, 1, 2, 6, 7, 8, 9, 12, 32, 33, 44, 46, 48, 51] ?_); refine y_inline func51 ntmps51 results51 fun tm sy => ?_; simp only [slots, shift, zipPs, List.nil_append, List.cons_append, List.append_nil, List.map_cons, List.map_nil, List.zipIdx_cons, List.zipIdx_nil, Nat.reduceAdd]; refine halt ?_ | refine yyp ?_; try refine s_bu ?_ ?_ <;> intro hb | refine yy ?_ | refine at_call 59 ?_; refine y_call (hc := c1) ?_ | refine at_nil ?_; refine z_nil qn13f_0 ?_ | refine tc_seq fun K hK => ?_ | refine tc_at 12 ?_; refine z_draw [6] qn13f_1 ?_ | apply_assumption -exfalso -symm); all_goals try refine unhalt ?_)
    (repeat' first | refine tr_at 17 ?_; (refine z_lit 2017 ?_) | refine tr_at 18 ?_; refine z_append0 2018 ?_ | refine yyp ?_; try refine s_bu ?_ ?_ <;> intro hb | refine yy ?_ | refine at_nil ?_; refine z_nil [0, 1, 2, 3, 8, 9] ?_ | refine tc_seq fun K hK => ?_ | apply_assumption -exfalso -symm)
    (refine y_endi ?_)
    ((repeat' first | refine tr_at 59 ?_; (refine tr_keep [0, 1, 2, 6, 7, 8, 9, 12, 32, 33, 44, 53, 56, 58] ?_); refine y_inline func61 ntmps61 results61 fun tm sy => ?_; simp only [slots, shift, zipPs, List.nil_append, List.cons_append, List.append_nil, List.map_cons, List.map_nil, List.zipIdx_cons, List.zipIdx_nil, Nat.reduceAdd]; refine halt ?_ | refine yyp ?_; try refine s_bu ?_ ?_ <;> intro hb | refine at_nil ?_; refine z_nil qn13f_0 ?_ | refine tc_seq fun K hK => ?_ | refine tc_at 12 ?_; refine z_draw [6] qn13f_1 ?_ | apply_assumption -exfalso -symm); all_goals try refine unhalt ?_)
    (repeat' first | refine yyp ?_; try refine s_bu ?_ ?_ <;> intro hb | refine yy ?_ | refine at_nil ?_; refine z_nil [0, 1, 2, 6, 7, 8, 11, 23, 37, 46] ?_ | refine tc_seq fun K hK => ?_ | apply_assumption -exfalso -symm)
    (refine tc_ret (y_reti ?_))
    ((repeat' first | refine tr_at 61 ?_; (refine tr_keep [0, 1, 2, 6, 7, 8, 9, 12, 32, 33, 44, 60, 61] ?_); refine y_inline func52 ntmps52 results52 fun tm sy => ?_; simp only [slots, shift, zipPs, List.nil_append, List.cons_append, List.append_nil, List.map_cons, List.map_nil, List.zipIdx_cons, List.zipIdx_nil, Nat.reduceAdd]; refine halt ?_ | refine yyp ?_; try refine s_bu ?_ ?_ <;> intro hb | refine yy ?_ | refine at_nil ?_; refine z_nil qn13f_0 ?_ | refine tc_seq fun K hK => ?_ | refine tc_at 12 ?_; refine z_draw [6] qn13f_1 ?_ | apply_assumption -exfalso -symm); all_goals try refine unhalt ?_)
    (repeat' first | refine yyp ?_; try refine s_bu ?_ ?_ <;> intro hb | refine yy ?_ | refine at_nil ?_; refine z_nil [0, 2, 3, 4, 5, 6] ?_ | refine tc_seq fun K hK => ?_ | apply_assumption -exfalso -symm)
    (refine tc_ret (y_reti ?_))
    (repeat' first | refine yyp ?_; try refine s_bu ?_ ?_ <;> intro hb | refine at_nil ?_; refine z_nil qn13f_0 ?_ | refine tc_seq fun K hK => ?_ | refine tc_at 12 ?_; refine z_draw [6] qn13f_1 ?_ | apply_assumption -exfalso -symm)
    refine tc_wk (wk_hbox_in (n := 900) (q := 902) (i := 115) rfl rfl rfl rfl (by (repeat (first | exact Drop.nil | apply Drop.drop rfl | apply Drop.take rfl)); fail_if_success intros) rfl) ?_
    (refine tc_ret (y_rete ⟨?_, rfl⟩))
    rfl
end
section
def qn13g_0 : List Nat := [0, 1, 2, 6, 7, 8, 9, 12, 32, 33, 44]
def qn13g_1 : Plan := lin [0, 4, 8, 12, 16, 21, 27]
open Go.RowKit Nd
attribute [local irreducible] TR TC
theorem nrx_byte (gl : List (Nat × List D)) (k : Nat) (hk : k < 4) (link : Int) (buf mem : List UInt8) (s s' : Se) (bit : Bool) (out : List UInt8) (busy : Bool) (b : UInt8) (hok : s.ok) (hq : s.hear bit = (s', .byte b)) :
    FnE prog gl 19 [.ptr 900 0, .d (.int .i64 k), .d (.int .i64 (if bit then 1 else 0))] (NH ⟨link, buf, out, mem, at4 k ⟨s, busy, none⟩, none⟩) (fun v H1 => v = .d (.list 5 [actA 5 k b.toNat]) ∧ H1 = NH ⟨link, buf, out, mem, at4 k ⟨s', busy, some b⟩, none⟩) := by
  have c0 := noff_fn gl k hk link buf (out) mem ⟨s, busy, none⟩ none
  have c1 := srx_fn gl s bit hok
  rw [hq] at c1
  clear hok hq
  generalize (if bit then (1 : Int) else 0) = bi at *
  have hb : b.toNat < 256 := b.toNat_lt
  simp only [dSe, dHeard] at c1
  rcases four_k hk with rfl | rfl | rfl | rfl
  all_goals
    (refine y_entere func19 ntmps19 results19 fun w M E b0 => ?_)
    ((repeat' first | refine tr_at 12 ?_; refine y_callE (hc := c0) ?_; try refine s_bu ?_ ?_ <;> intro hb | refine tc_at 3 ?_; refine halt ?_ | refine yyp ?_; try refine s_bu ?_ ?_ <;> intro hb | refine yy ?_ | refine at_nil ?_; refine z_nil qn13g_0 ?_ | refine tc_seq fun K hK => ?_ | refine tc_at 12 ?_; refine z_draw [] (lin [0, 4, 8, 12, 16, 21, 26]) ?_ | apply_assumption -exfalso -symm); all_goals try refine unhalt ?_)
    refine tc_wk (wk_hbox_out (n := 900) (q := 902) rfl rfl) ?_
    simp only [nodeC, coreD, four_links0, four_links1, four_links2, four_links3, lkD, seD, dSe, lk0, se0, num, dBs_cons, dBs_nil, bD_none, bD_some, Option.isSome_none, Option.isSome_some, Option.isNone_none, List.length_nil, List.map_append, List.map_cons, List.map_nil, List.cons_append, List.nil_append, List.append_assoc, List.set_cons_succ, List.set_cons_zero]
    ((repeat' first | refine tr_at 8 ?_; (refine z_alloc 1008 ?_) | refine tr_at 9 ?_; (refine z_alloc 1009 ?_) | refine tr_at 52 ?_; (refine tr_keep [0, 1, 2, 6, 7, 8, 9, 12, 32, 33, 44, 46, 48, 51] ?_); refine y_inline func51 ntmps51 results51 fun tm sy => ?_; simp only [slots, shift, zipPs, List.nil_append, List.cons_append, List.append_nil, List.map_cons, List.map_nil, List.zipIdx_cons, List.zipIdx_nil, Nat.reduceAdd]; refine halt ?_ | refine yyp ?_; try refine s_bu ?_ ?_ <;> intro hb | refine yy ?_ | refine at_call 59 ?_; refine y_call (hc := c1) ?_ | refine at_nil ?_; refine z_nil qn13g_0 ?_ | refine tc_seq fun K hK => ?_ | refine tc_at 12 ?_; refine z_draw [6] qn13g_1 ?_ | apply_assumption -exfalso -symm); all_goals try refine unhalt ?_)
    (repeat' first | refine tr_at 17 ?_; (refine z_lit 2017 ?_) | refine tr_at 18 ?_; refine z_append0 2018 ?_ | refine yyp ?_; try refine s_bu ?_ ?_ <;> intro hb | refine yy ?_ | refine at_nil ?_; refine z_nil [0, 1, 2, 3, 8, 9] ?_ | refine tc_seq fun K hK => ?_ | apply_assumption -exfalso -symm)
    (refine y_endi ?_)
    ((repeat' first | refine tr_at 59 ?_; (refine tr_keep [0, 1, 2, 6, 7, 8, 9, 12, 32, 33, 44, 53, 56, 58] ?_); refine y_inline func61 ntmps61 results61 fun tm sy => ?_; simp only [slots, shift, zipPs, List.nil_append, List.cons_append, List.append_nil, List.map_cons, List.map_nil, List.zipIdx_cons, List.zipIdx_nil, Nat.reduceAdd]; refine halt ?_ | refine yyp ?_; try refine s_bu ?_ ?_ <;> intro hb | refine at_nil ?_; refine z_nil qn13g_0 ?_ | refine tc_seq fun K hK => ?_ | refine tc_at 12 ?_; refine z_draw [6] qn13g_1 ?_ | apply_assumption -exfalso -symm); all_goals try refine unhalt ?_)
    (repeat' first | refine yyp ?_; try refine s_bu ?_ ?_ <;> intro hb | refine yy ?_ | refine at_nil ?_; refine z_nil [0, 1, 2, 6, 7, 8, 11, 23, 37, 46] ?_ | refine tc_seq fun K hK => ?_ | apply_assumption -exfalso -symm)
    (refine tc_ret (y_reti ?_))
    ((repeat' first | refine tr_at 61 ?_; (refine tr_keep [0, 1, 2, 6, 7, 8, 9, 12, 32, 33, 44, 60, 61] ?_); refine y_inline func52 ntmps52 results52 fun tm sy => ?_; simp only [slots, shift, zipPs, List.nil_append, List.cons_append, List.append_nil, List.map_cons, List.map_nil, List.zipIdx_cons, List.zipIdx_nil, Nat.reduceAdd]; refine halt ?_ | refine yyp ?_; try refine s_bu ?_ ?_ <;> intro hb | refine yy ?_ | refine at_nil ?_; refine z_nil qn13g_0 ?_ | refine tc_seq fun K hK => ?_ | refine tc_at 12 ?_; refine z_draw [6] qn13g_1 ?_ | apply_assumption -exfalso -symm); all_goals try refine unhalt ?_)
    (repeat' first | refine yyp ?_; try refine s_bu ?_ ?_ <;> intro hb | refine yy ?_ | refine at_nil ?_; refine z_nil [0, 2, 3, 4, 5, 6] ?_ | refine tc_seq fun K hK => ?_ | apply_assumption -exfalso -symm)
    (refine tc_ret (y_reti ?_))
    (repeat' first | refine yyp ?_; try refine s_bu ?_ ?_ <;> intro hb | refine at_nil ?_; refine z_nil qn13g_0 ?_ | refine tc_seq fun K hK => ?_ | refine tc_at 12 ?_; refine z_draw [6] qn13g_1 ?_ | apply_assumption -exfalso -symm)
    refine tc_wk (wk_hbox_in (n := 900) (q := 902) (i := 115) rfl rfl rfl rfl (by (repeat (first | exact Drop.nil | apply Drop.drop rfl | apply Drop.take rfl)); fail_if_success intros) rfl) ?_
    (refine tc_ret (y_rete ⟨?_, rfl⟩))
    rfl
end
section
open Go.RowKit Nd
namespace Nd
def rxA (k : Int) : Heard → D
  | .ack => .list 5 [actA 6 k 0]
  | .byte b => .list 5 [actA 5 k b.toNat]
  | _ => .list 0 []
structure NB.fits (k : Nat) (n : NB) (l : Lk) : Prop where
  ls : n.ls = at4 k l
  ok : l.wire.ok
  busy : l.busy = true → n.out ≠ []
  link : n.link = -1 ∨ n.link = k
  run : n.run = none
  len : n.mem.length = 1024
  out : n.out ≠ [] → n.link = k ∧ n.buf = []
  free : n.link = -1 → n.buf = [] ∧ n.out = []
  mine : n.link = k → n.out = [] → n.buf ≠ []
  part : n.buf ≠ [] → n.buf.length < whole n.buf
theorem NB.at_k {k : Nat} (hk : k < 4) {n : NB} {l : Lk} (h : n.ls = at4 k l) : n.at k = l := by
  unfold NB.at
  rw [h, at4_at hk]
end Nd
theorem nrx_fn (gl : List (Nat × List D)) (k : Nat) (hk : k < 4) (n : NB) (l : Lk) (bit : Bool) (h : n.fits k l) :
    ∃ l', (n.rx k bit).fits k l' ∧ FnE prog gl 19 [.ptr 900 0, .d (.int .i64 k), .d (.int .i64 (if bit then 1 else 0))] (NH n) (fun v H1 => v = .d (rxA k (l.wire.hear bit).2) ∧ H1 = NH (n.rx k bit)) := by
  obtain ⟨link, buf, out, mem, ls, r⟩ := n
  obtain ⟨h1, h2, h3, h4, h5, h6, h7, h8, h9, h10⟩ := h
  dsimp only at h1 h3 h4 h5 h6 h7 h8 h9 h10
  subst h1 h5
  obtain ⟨s, busy, inb⟩ := l
  dsimp only at h2 h3 ⊢
  have hok := h2.hear bit
  obtain ⟨⟨s', hd⟩, hq⟩ : ∃ x, s.hear bit = x := ⟨_, rfl⟩
  rw [hq] at hok
  dsimp only at hok
  have e : ∀ l', (at4 k ⟨s, busy, inb⟩).set k l' = at4 k l' := at4_set hk _
  unfold NB.rx NB.at
  dsimp only
  rw [at4_at hk]
  dsimp only
  rw [hq]
  cases hd with
  | none =>
    dsimp only
    rw [e]
    exact ⟨⟨s', busy, inb⟩, ⟨rfl, hok, h3, h4, rfl, h6, h7, h8, h9, h10⟩, nrx_none gl k hk link buf mem s s' bit out busy inb h2 hq⟩
  | bad =>
    dsimp only
    rw [e]
    exact ⟨⟨s', busy, inb⟩, ⟨rfl, hok, h3, h4, rfl, h6, h7, h8, h9, h10⟩, nrx_bad gl k hk link buf mem s s' bit out busy inb h2 hq⟩
  | ack =>
    dsimp only
    rw [e, e]
    cases busy with
    | false => exact ⟨⟨s', false, inb⟩, ⟨rfl, hok, h3, h4, rfl, h6, h7, h8, h9, h10⟩, nrx_ack0 gl k hk link buf mem s s' bit out inb h2 hq⟩
    | true =>
      cases out with
      | nil => exact absurd rfl (h3 rfl)
      | cons o out =>
        cases out with
        | nil => exact ⟨⟨s', false, inb⟩, ⟨rfl, hok, (fun h => by cases h), .inl rfl, rfl, h6, (fun h => absurd rfl h), (fun _ => ⟨(h7 (by simp)).2, rfl⟩), (fun h => absurd h (by show ¬ (-1 : Int) = (k : Int); omega)), h10⟩, nrx_ack1 gl k hk link buf mem s s' bit o inb h2 hq⟩
        | cons o2 out => exact ⟨⟨s', false, inb⟩, ⟨rfl, hok, (fun h => by cases h), h4, rfl, h6, (fun _ => h7 (by simp)), (fun h => by have := (h8 h).2; simp at this), (fun _ h => by simp at h), h10⟩, nrx_ack2 gl k hk link buf mem s s' bit o o2 out inb h2 hq⟩
  | byte b =>
    dsimp only
    rw [e, e]
    cases inb with
    | some x => exact ⟨⟨s', busy, some x⟩, ⟨rfl, hok, h3, h4, rfl, h6, h7, h8, h9, h10⟩, nrx_byte0 gl k hk link buf mem s s' bit out busy b x h2 hq⟩
    | none => exact ⟨⟨s', busy, some b⟩, ⟨rfl, hok, h3, h4, rfl, h6, h7, h8, h9, h10⟩, nrx_byte gl k hk link buf mem s s' bit out busy b h2 hq⟩
theorem ntx_at (gl : List (Nat × List D)) (k : Nat) (hk : k < 4) (n : NB) (l : Lk) (hls : n.ls = at4 k l) (hok : l.wire.ok) :
    (n.tx k).1.ls = at4 k { l with wire := l.wire.next.1 } ∧ FnE prog gl 17 [.ptr 900 0, .d (.int .i64 k)] (NH n) (fun v H1 => v = .tup [.d (.int .i64 (if (n.tx k).2 then 1 else 0)), .d (txA k l.wire)] ∧ H1 = NH (n.tx k).1) := by
  obtain ⟨link, buf, out, mem, ls, r⟩ := n
  dsimp only at hls
  subst hls
  have h := ntx_fn gl k hk link buf out mem l r hok
  unfold NB.tx NB.at
  dsimp only
  rw [at4_at hk, at4_set hk]
  exact ⟨rfl, h⟩
end
end Go.Proofs.YtjhbglklcddekaaGreatDoor
