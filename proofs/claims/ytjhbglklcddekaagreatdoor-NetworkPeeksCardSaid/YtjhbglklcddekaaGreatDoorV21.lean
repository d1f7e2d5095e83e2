/- Parts: N15A, N15B, N15C, N15D, N15E, N16. -/
import Derived.Test.YtjhbglklcddekaaGreatDoorV18
set_option linter.all false
set_option maxRecDepth 100000
set_option maxHeartbeats 16000000
namespace Go.Proofs.YtjhbglklcddekaaGreatDoor
open Go.RowKit Go.Proofs.Tryz
section
open Go.RowKit Nd
attribute [local irreducible] TR TC
theorem take_no1 (gl : List (Nat × List D)) (k : Nat) (hk : k < 4) (link : Int) (buf out mem : List UInt8) (r : Option (Int × Int)) (s : Se) (busy : Bool) :
    FnE prog gl 79 [.ptr 900 (29 + k * 21)] (NH ⟨link, buf, out, mem, at4 k ⟨s, busy, none⟩, r⟩) (fun v H1 => v = .tup [.d (.int .u8 0), .d (.bool false)] ∧ H1 = NH ⟨link, buf, out, mem, at4 k ⟨s, busy, none⟩, r⟩) := by
  rcases four_k hk with rfl | rfl | rfl | rfl
  all_goals
    (refine y_entere func79 ntmps79 results79 fun w M E b0 => ?_)
    refine tc_wk (wk_hbox_out (n := 900) (q := 902) rfl rfl) ?_
    simp only [nodeC, coreD, four_links0, four_links1, four_links2, four_links3, lkD, seD, dSe, lk0, se0, num, dBs_cons, dBs_nil, bD_none, bD_some, Option.isSome_none, Option.isSome_some, Option.isNone_none, Option.isNone_some, List.length_nil, List.map_append, List.map_cons, List.map_nil, List.cons_append, List.nil_append, List.append_assoc, List.set_cons_succ, List.set_cons_zero]
    (repeat' first | refine yyp ?_; try refine s_bu ?_ ?_ <;> intro hb | refine yy ?_ | refine at_nil ?_; refine z_nil [0, 2, 3, 4, 5, 6, 16] ?_ | refine tc_seq fun K hK => ?_ | apply_assumption -exfalso -symm)
    refine tc_wk (wk_hbox_in (n := 900) (q := 902) (i := 115) rfl rfl rfl rfl (by (repeat (first | exact Drop.nil | apply Drop.drop rfl | apply Drop.take rfl)); fail_if_success intros) rfl) ?_
    (refine tc_ret (y_rete ⟨?_, rfl⟩))
    rfl
theorem take_no2 (gl : List (Nat × List D)) (k : Nat) (hk : k < 4) (link : Int) (buf out mem : List UInt8) (r : Option (Int × Int)) (tx rx : List Bool) (data : Option UInt8) (busy : Bool) (b : UInt8) :
    FnE prog gl 79 [.ptr 900 (29 + k * 21)] (NH ⟨link, buf, out, mem, at4 k ⟨⟨tx, true, data, rx⟩, busy, some b⟩, r⟩) (fun v H1 => v = .tup [.d (.int .u8 0), .d (.bool false)] ∧ H1 = NH ⟨link, buf, out, mem, at4 k ⟨⟨tx, true, data, rx⟩, busy, some b⟩, r⟩) := by
  rcases four_k hk with rfl | rfl | rfl | rfl
  all_goals
    (refine y_entere func79 ntmps79 results79 fun w M E b0 => ?_)
    refine tc_wk (wk_hbox_out (n := 900) (q := 902) rfl rfl) ?_
    simp only [nodeC, coreD, four_links0, four_links1, four_links2, four_links3, lkD, seD, dSe, lk0, se0, num, dBs_cons, dBs_nil, bD_none, bD_some, Option.isSome_none, Option.isSome_some, Option.isNone_none, Option.isNone_some, List.length_nil, List.map_append, List.map_cons, List.map_nil, List.cons_append, List.nil_append, List.append_assoc, List.set_cons_succ, List.set_cons_zero]
    (repeat' first | refine yyp ?_; try refine s_bu ?_ ?_ <;> intro hb | refine yy ?_ | refine at_nil ?_; refine z_nil [0, 2, 3, 4, 5, 6, 16] ?_ | refine tc_seq fun K hK => ?_ | apply_assumption -exfalso -symm)
    refine tc_wk (wk_hbox_in (n := 900) (q := 902) (i := 115) rfl rfl rfl rfl (by (repeat (first | exact Drop.nil | apply Drop.drop rfl | apply Drop.take rfl)); fail_if_success intros) rfl) ?_
    (refine tc_ret (y_rete ⟨?_, rfl⟩))
    rfl
end
section
open Go.RowKit Nd
attribute [local irreducible] TR TC
theorem take_ok (gl : List (Nat × List D)) (k : Nat) (hk : k < 4) (link : Int) (buf out mem : List UInt8) (r : Option (Int × Int)) (tx rx : List Bool) (data : Option UInt8) (busy : Bool) (b : UInt8) (hok : Se.ok ⟨tx, false, data, rx⟩) :
    FnE prog gl 79 [.ptr 900 (29 + k * 21)] (NH ⟨link, buf, out, mem, at4 k ⟨⟨tx, false, data, rx⟩, busy, some b⟩, r⟩) (fun v H1 => v = .tup [.d (.int .u8 b.toNat), .d (.bool true)] ∧ H1 = NH ⟨link, buf, out, mem, at4 k ⟨⟨tx, true, data, rx⟩, busy, none⟩, r⟩) := by
  have c1 := sack_fn gl ⟨tx, false, data, rx⟩ hok
  clear hok
  simp only [dSe, Bool.false_eq_true, if_false] at c1
  rcases four_k hk with rfl | rfl | rfl | rfl
  all_goals
    (refine y_entere func79 ntmps79 results79 fun w M E b0 => ?_)
    refine tc_wk (wk_hbox_out (n := 900) (q := 902) rfl rfl) ?_
    simp only [nodeC, coreD, four_links0, four_links1, four_links2, four_links3, lkD, seD, dSe, lk0, se0, num, dBs_cons, dBs_nil, bD_none, bD_some, Option.isSome_none, Option.isSome_some, Option.isNone_none, Option.isNone_some, List.length_nil, List.map_append, List.map_cons, List.map_nil, List.cons_append, List.nil_append, List.append_assoc, List.set_cons_succ, List.set_cons_zero]
    (repeat' first | refine yyp ?_; try refine s_bu ?_ ?_ <;> intro hb | refine yy ?_ | refine at_call 101 ?_; refine y_call (hc := c1) ?_ | refine at_nil ?_; refine z_nil [0, 2, 3, 4, 5, 6, 16] ?_ | refine tc_seq fun K hK => ?_ | apply_assumption -exfalso -symm)
    refine tc_wk (wk_hbox_in (n := 900) (q := 902) (i := 115) rfl rfl rfl rfl (by (repeat (first | exact Drop.nil | apply Drop.drop rfl | apply Drop.take rfl)); fail_if_success intros) rfl) ?_
    (refine tc_ret (y_rete ⟨?_, rfl⟩))
    rfl
end
section
open Go.RowKit Nd
attribute [local irreducible] TR TC
theorem send_no1 (gl : List (Nat × List D)) (k : Nat) (hk : k < 4) (link : Int) (buf out mem : List UInt8) (r : Option (Int × Int)) (s : Se) (inb : Option UInt8) (o : UInt8) :
    FnE prog gl 76 [.ptr 900 (29 + k * 21), .d (.int .u8 o.toNat)] (NH ⟨link, buf, out, mem, at4 k ⟨s, true, inb⟩, r⟩) (fun v H1 => v = .tup [] ∧ H1 = NH ⟨link, buf, out, mem, at4 k ⟨s, true, inb⟩, r⟩) := by
  rcases four_k hk with rfl | rfl | rfl | rfl
  all_goals
    (refine y_entere func76 ntmps76 results76 fun w M E b0 => ?_)
    refine tc_endsW ?_
    refine tc_wk (wk_hbox_out (n := 900) (q := 902) rfl rfl) ?_
    simp only [nodeC, coreD, four_links0, four_links1, four_links2, four_links3, lkD, seD, dSe, lk0, se0, num, dBs_cons, dBs_nil, bD_none, bD_some, Option.isSome_none, Option.isSome_some, Option.isNone_none, Option.isNone_some, List.length_nil, List.map_append, List.map_cons, List.map_nil, List.cons_append, List.nil_append, List.append_assoc, List.set_cons_succ, List.set_cons_zero]
    (repeat' first | refine yyp ?_; try refine s_bu ?_ ?_ <;> intro hb | refine yy ?_ | refine at_nil ?_; refine z_nil [0, 1, 4, 5, 6, 7, 17] ?_ | refine tc_seq fun K hK => ?_ | apply_assumption -exfalso -symm)
    refine endsW (wk_hbox_in (n := 900) (q := 902) (i := 115) rfl rfl rfl rfl (by (repeat (first | exact Drop.nil | apply Drop.drop rfl | apply Drop.take rfl)); fail_if_success intros) rfl) ?_
    exact y_endn ⟨rfl, rfl⟩
theorem send_no2 (gl : List (Nat × List D)) (k : Nat) (hk : k < 4) (link : Int) (buf out mem : List UInt8) (r : Option (Int × Int)) (tx rx : List Bool) (ack : Bool) (x : UInt8) (inb : Option UInt8) (o : UInt8) :
    FnE prog gl 76 [.ptr 900 (29 + k * 21), .d (.int .u8 o.toNat)] (NH ⟨link, buf, out, mem, at4 k ⟨⟨tx, ack, some x, rx⟩, false, inb⟩, r⟩) (fun v H1 => v = .tup [] ∧ H1 = NH ⟨link, buf, out, mem, at4 k ⟨⟨tx, ack, some x, rx⟩, false, inb⟩, r⟩) := by
  rcases four_k hk with rfl | rfl | rfl | rfl
  all_goals
    (refine y_entere func76 ntmps76 results76 fun w M E b0 => ?_)
    refine tc_endsW ?_
    refine tc_wk (wk_hbox_out (n := 900) (q := 902) rfl rfl) ?_
    simp only [nodeC, coreD, four_links0, four_links1, four_links2, four_links3, lkD, seD, dSe, lk0, se0, num, dBs_cons, dBs_nil, bD_none, bD_some, Option.isSome_none, Option.isSome_some, Option.isNone_none, Option.isNone_some, List.length_nil, List.map_append, List.map_cons, List.map_nil, List.cons_append, List.nil_append, List.append_assoc, List.set_cons_succ, List.set_cons_zero]
    (repeat' first | refine yyp ?_; try refine s_bu ?_ ?_ <;> intro hb | refine yy ?_ | refine at_nil ?_; refine z_nil [0, 1, 4, 5, 6, 7, 17] ?_ | refine tc_seq fun K hK => ?_ | apply_assumption -exfalso -symm)
    refine endsW (wk_hbox_in (n := 900) (q := 902) (i := 115) rfl rfl rfl rfl (by (repeat (first | exact Drop.nil | apply Drop.drop rfl | apply Drop.take rfl)); fail_if_success intros) rfl) ?_
    exact y_endn ⟨rfl, rfl⟩
theorem send_ok (gl : List (Nat × List D)) (k : Nat) (hk : k < 4) (link : Int) (buf out mem : List UInt8) (r : Option (Int × Int)) (tx rx : List Bool) (ack : Bool) (inb : Option UInt8) (o : UInt8) (hok : Se.ok ⟨tx, ack, none, rx⟩) :
    FnE prog gl 76 [.ptr 900 (29 + k * 21), .d (.int .u8 o.toNat)] (NH ⟨link, buf, out, mem, at4 k ⟨⟨tx, ack, none, rx⟩, false, inb⟩, r⟩) (fun v H1 => v = .tup [] ∧ H1 = NH ⟨link, buf, out, mem, at4 k ⟨⟨tx, ack, some o, rx⟩, true, inb⟩, r⟩) := by
  have c1 := ssend_fn gl ⟨tx, ack, none, rx⟩ o hok
  clear hok
  have ho : o.toNat < 256 := o.toNat_lt
  simp only [dSe, Option.isSome_none, Option.isSome_some, bD_none, bD_some, Bool.false_eq_true, if_false] at c1
  rcases four_k hk with rfl | rfl | rfl | rfl
  all_goals
    (refine y_entere func76 ntmps76 results76 fun w M E b0 => ?_)
    refine tc_endsW ?_
    refine tc_wk (wk_hbox_out (n := 900) (q := 902) rfl rfl) ?_
    simp only [nodeC, coreD, four_links0, four_links1, four_links2, four_links3, lkD, seD, dSe, lk0, se0, num, dBs_cons, dBs_nil, bD_none, bD_some, Option.isSome_none, Option.isSome_some, Option.isNone_none, Option.isNone_some, List.length_nil, List.map_append, List.map_cons, List.map_nil, List.cons_append, List.nil_append, List.append_assoc, List.set_cons_succ, List.set_cons_zero]
    (repeat' first | refine yyp ?_; try refine s_bu ?_ ?_ <;> intro hb | refine yy ?_ | refine at_call 94 ?_; refine y_call (hc := c1) ?_ | refine at_nil ?_; refine z_nil [0, 1, 4, 5, 6, 7, 17] ?_ | refine tc_seq fun K hK => ?_ | apply_assumption -exfalso -symm)
    refine endsW (wk_hbox_in (n := 900) (q := 902) (i := 115) rfl rfl rfl rfl (by (repeat (first | exact Drop.nil | apply Drop.drop rfl | apply Drop.take rfl)); fail_if_success intros) rfl) ?_
    exact y_endn ⟨rfl, rfl⟩
end
section
open Go.RowKit Nd
attribute [local irreducible] TR TC
theorem hasin_fn (gl : List (Nat × List D)) (l : Lk) : FnE prog gl 78 [.d (.agg (lkD l))] [] (fun v H1 => v = .d (.bool l.inb.isSome) ∧ H1 = []) := by
  unfold lkD seD
  simp only [List.cons_append, List.nil_append]
  (refine y_entere func78 ntmps78 results78 fun w M E b0 => ?_)
  (repeat' first | refine tr_at 1 ?_; (refine z_box 1001 ?_) | refine yyp ?_ | refine yy ?_ | refine at_nil ?_; refine z_nil [0, 1, 2, 3, 4, 5] ?_ | refine tc_seq fun K hK => ?_ | apply_assumption -exfalso -symm)
  (refine tc_ret (y_rete ⟨?_, rfl⟩))
  rfl
theorem index_fn (gl : List (Nat × List D)) (k : Nat) (hk : k < 4) (link : Int) (buf out mem : List UInt8) (r : Option (Int × Int)) (s : Se) (busy : Bool) (inb : Option UInt8) :
    FnE prog gl 77 [.sl 900 29 4 4, .clo (.func 78) [] []] (NH ⟨link, buf, out, mem, at4 k ⟨s, busy, inb⟩, r⟩) (fun v H1 => v = .d (.int .i64 (if inb.isSome then k else -1)) ∧ H1 = NH ⟨link, buf, out, mem, at4 k ⟨s, busy, inb⟩, r⟩) := by
  have cA := hasin_fn gl ⟨s, busy, inb⟩
  have cB := hasin_fn gl lk0
  cases inb
  all_goals rcases four_k hk with rfl | rfl | rfl | rfl
  all_goals
    simp only [lkD, seD, lk0, se0, num, bD_none, bD_some, Option.isSome_none, Option.isSome_some, List.length_nil, List.cons_append, List.nil_append] at cA cB
    (refine y_entere func77 ntmps77 results77 fun w M E b0 => ?_)
    refine tc_wk (wk_hbox_out (n := 900) (q := 902) rfl rfl) ?_
    simp only [nodeC, coreD, four_links0, four_links1, four_links2, four_links3, lkD, seD, dSe, lk0, se0, num, dBs_cons, dBs_nil, bD_none, bD_some, Option.isSome_none, Option.isSome_some, Option.isNone_none, Option.isNone_some, List.length_nil, List.map_append, List.map_cons, List.map_nil, List.cons_append, List.nil_append, List.append_assoc, List.set_cons_succ, List.set_cons_zero]
    (repeat' first | refine yyp ?_; try refine s_bu ?_ ?_ <;> intro hb | refine yy ?_ | refine at_nil ?_; refine z_nil [0, 1, 4, 5, 6, 7, 8, 9, 16] ?_ | refine tc_seq fun K hK => ?_ | apply_assumption -exfalso -symm)
    refine tc_rounds 5 (rounds_next fun K5 h5 => ?_)
    (repeat' first | refine tr_at 16 ?_; refine y_callE (hc := (by first | exact cA | exact cB)) ?_; try refine s_bu ?_ ?_ <;> intro hb | refine yyp ?_; try refine s_bu ?_ ?_ <;> intro hb | refine yyq ?_; try refine s_bu ?_ ?_ <;> intro hb | refine yy ?_ | refine at_nil ?_; refine z_nil [0, 1, 4, 5, 6, 7, 8, 9, 16] ?_ | refine tc_seq fun K hK => ?_ | apply_assumption -exfalso -symm)
    refine tc_wk (wk_hbox_in (n := 900) (q := 902) (i := 115) rfl rfl rfl rfl (by (repeat (first | exact Drop.nil | apply Drop.drop rfl | apply Drop.take rfl)); fail_if_success intros) rfl) ?_
    (refine tc_ret (y_rete ⟨?_, rfl⟩))
    rfl
end
section
def qn15e_0 : List Nat := [0, 2, 3, 4, 5, 6, 7, 12]
open Go.RowKit Nd
attribute [local irreducible] TR TC
theorem whole_fn (gl : List (Nat × List D)) (x : UInt8) (ys : List D) (kv : Nat) : FnE prog gl 80 [.own 902 kv] [(902, .row 5 1 false (dB x :: ys) kv)] (fun v H1 => v = .d (.int .i64 (whole [x] : Nat)) ∧ H1 = [(902, .row 5 1 false (dB x :: ys) kv)]) := by
  have hx : x.toNat < 256 := x.toNat_lt
  have hw : whole [x] = if x.toNat = 0 then 9 else if x.toNat = 1 then 5 else x.toNat + 1 := by
    show (if x = 0 then 9 else if x = 1 then 5 else x.toNat + 1) = _
    have e0 : x = 0 ↔ x.toNat = 0 := ⟨fun h => by rw [h]; rfl, fun h => UInt8.toNat_inj.1 h⟩
    have e1 : x = 1 ↔ x.toNat = 1 := ⟨fun h => by rw [h]; rfl, fun h => UInt8.toNat_inj.1 h⟩
    simp only [e0, e1]
  rw [hw]
  unfold dB
  generalize x.toNat = n at *
  clear hw
  by_cases h0 : n = 0
  · subst h0
    simp only [if_true]
    (refine y_entere func80 ntmps80 results80 fun w M E b0 => ?_)
    (repeat' first | refine yyp ?_; try refine s_bu ?_ ?_ <;> intro hb | refine yy ?_ | refine yyc ?_ | refine at_nil ?_; refine z_nil qn15e_0 ?_ | refine tc_seq fun K hK => ?_ | apply_assumption -exfalso -symm)
    all_goals
      first
        | (exfalso; (try simp only [List.length_cons] at *); omega)
        | (refine tc_ret (y_rete (hok := ?_) ⟨?_, rfl⟩)
           · rfl
           · simp [endOk, keysOk, rowsOk, closedH, keyIn, look, withinL, Ob.cells, V.within, oneOf])
  · by_cases h1 : n = 1
    · subst h1
      simp only [if_true, if_neg h0]
      (refine y_entere func80 ntmps80 results80 fun w M E b0 => ?_)
      (repeat' first | refine yyp ?_; try refine s_bu ?_ ?_ <;> intro hb | refine yy ?_ | refine yyc ?_ | refine at_nil ?_; refine z_nil qn15e_0 ?_ | refine tc_seq fun K hK => ?_ | apply_assumption -exfalso -symm)
      all_goals
        first
          | (exfalso; (try simp only [List.length_cons] at *); omega)
          | (refine tc_ret (y_rete (hok := ?_) ⟨?_, rfl⟩)
             · rfl
             · simp [endOk, keysOk, rowsOk, closedH, keyIn, look, withinL, Ob.cells, V.within, oneOf])
    · rw [if_neg h0, if_neg h1]
      (refine y_entere func80 ntmps80 results80 fun w M E b0 => ?_)
      (repeat' first | refine yyp ?_; try refine s_bu ?_ ?_ <;> intro hb | refine yy ?_ | refine yyc ?_ | refine at_nil ?_; refine z_nil qn15e_0 ?_ | refine tc_seq fun K hK => ?_ | apply_assumption -exfalso -symm)
      all_goals
        first
          | (exfalso; (try simp only [List.length_cons] at *); omega)
          | (refine tc_ret (y_rete (hok := ?_) ⟨?_, rfl⟩)
             · rfl
             · simp [endOk, keysOk, rowsOk, closedH, keyIn, look, withinL, Ob.cells, V.within, oneOf])
end
section
open Go.RowKit Nd
namespace Nd
theorem dB_zero : dB 0 = .int .u8 0 := rfl
theorem dB_one : dB 1 = .int .u8 1 := rfl
end Nd
theorem send_any (gl : List (Nat × List D)) (k : Nat) (hk : k < 4) (link : Int) (buf out mem : List UInt8) (r : Option (Int × Int)) (l : Lk) (o : UInt8) (hok : l.wire.ok) :
    FnE prog gl 76 [.ptr 900 (29 + k * 21), .d (.int .u8 o.toNat)] (NH ⟨link, buf, out, mem, at4 k l, r⟩) (fun v H1 => v = .tup [] ∧ H1 = NH ⟨link, buf, out, mem, at4 k (l.send o), r⟩) := by
  obtain ⟨⟨tx, ack, data, rx⟩, busy, inb⟩ := l
  cases busy with
  | true => exact send_no1 gl k hk link buf out mem r _ inb o
  | false =>
    cases data with
    | some x => exact send_no2 gl k hk link buf out mem r tx rx ack x inb o
    | none => exact send_ok gl k hk link buf out mem r tx rx ack inb o hok
theorem take_no (gl : List (Nat × List D)) (k : Nat) (hk : k < 4) (link : Int) (buf out mem : List UInt8) (r : Option (Int × Int)) (l : Lk) (h : l.take = none) :
    FnE prog gl 79 [.ptr 900 (29 + k * 21)] (NH ⟨link, buf, out, mem, at4 k l, r⟩) (fun v H1 => v = .tup [.d (.int .u8 0), .d (.bool false)] ∧ H1 = NH ⟨link, buf, out, mem, at4 k l, r⟩) := by
  obtain ⟨⟨tx, ack, data, rx⟩, busy, inb⟩ := l
  cases inb with
  | none => exact take_no1 gl k hk link buf out mem r _ busy
  | some b =>
    cases ack with
    | true => exact take_no2 gl k hk link buf out mem r tx rx data busy b
    | false => cases h
theorem take_yes (gl : List (Nat × List D)) (k : Nat) (hk : k < 4) (link : Int) (buf out mem : List UInt8) (r : Option (Int × Int)) (l l' : Lk) (b : UInt8) (h : l.take = some (l', b)) (hok : l.wire.ok) :
    FnE prog gl 79 [.ptr 900 (29 + k * 21)] (NH ⟨link, buf, out, mem, at4 k l, r⟩) (fun v H1 => v = .tup [.d (.int .u8 b.toNat), .d (.bool true)] ∧ H1 = NH ⟨link, buf, out, mem, at4 k l', r⟩) := by
  obtain ⟨⟨tx, ack, data, rx⟩, busy, inb⟩ := l
  cases inb with
  | none => cases h
  | some x =>
    cases ack with
    | true => cases h
    | false =>
      cases h
      exact take_ok gl k hk link buf out mem r tx rx data busy b hok
theorem setWord_any (gl : List (Nat × List D)) (m : List UInt8) (a v : Nat) (ha : a < 4294967296) (hv : v < 4294967296) (h3 : m.length = 1024) :
    FnE prog gl 93 [.ptr 901 0, .d (.int .i32 (s32 a)), .d (.int .i32 (s32 v))] (memO m) (fun r H1 => r = .d (.int .i64 (if index a < m.length then 0 else 4)) ∧ H1 = memO (setWord m a v)) := by
  by_cases h : index a < m.length
  · rw [if_pos h]
    exact setWord_fn gl m a v ha hv h (by omega) (by omega)
  · rw [if_neg h]
    exact setWord_no gl m a v ha hv (by omega) (by omega) (by omega) (by omega)
theorem mword_any (gl : List (Nat × List D)) (m : List UInt8) (a : Nat) (ha : a < 4294967296) (h3 : m.length = 1024) :
    FnE prog gl 103 [.ptr 901 0, .d (.int .i32 (s32 a))] (memO m) (fun v H1 => v = .tup [.d (.int .i32 (s32 (wordAt m a))), .d (.int .i64 (if index a < m.length then 0 else 4))] ∧ H1 = memO m) := by
  by_cases h : index a < m.length
  · rw [if_pos h]
    exact mword_fn gl m a ha h (by omega) (by omega)
  · rw [if_neg h]
    exact mword_no gl m a ha (by omega) (by omega) (by omega) (by omega)
end
end Go.Proofs.YtjhbglklcddekaaGreatDoor
