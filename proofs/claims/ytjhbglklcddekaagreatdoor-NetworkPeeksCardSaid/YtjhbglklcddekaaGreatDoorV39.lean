/- Parts: NW14C, NW14D. -/
import Derived.Test.YtjhbglklcddekaaGreatDoorV38
set_option linter.all false
set_option maxRecDepth 100000
set_option maxHeartbeats 16000000
namespace Go.Proofs.YtjhbglklcddekaaGreatDoor
open Go.RowKit Go.Proofs.Tryz
section
def qnw14c_0 : List Nat := [0, 1, 4, 5, 6, 7, 8, 9, 10, 11, 12, 21, 25, 26, 27, 28, 48, 49, 50, 56]
def qnw14c_1 : List Nat := [0, 1, 2, 3, 8, 10, 11, 12, 13, 14]
def qnw14c_2 : Plan := lin [0, 4, 8, 16, 32, 36, 40, 48, 13, 20, 24, 29, 64, 45, 52, 56, 61, 68]
open Go.RowKit Nd
attribute [local irreducible] TR TC
theorem netheld_C (gl : List (Nat × List D)) (t : Nat) (ht : t < 2147483647) (x : Int) (e0 : ¬ heldE x 0) (e1 : heldE x (0 + 1)) (h h1 h2 : Ho) (n n1 n2 : NB) (hn : n.four) (hn1 : n1.four) (hn2 : n2.four) (bit : Int) (A1 A2 : List Ac) (l1 : A1.length ≤ 2) (l2 : A2.length ≤ 2)
    (cS : FnE prog gl 18 [.ptr 900 0] (NH n) (fun v H1 => v = .d (.list 0 []) ∧ H1 = NH n1))
    (cT : FnE prog gl 64 [.ptr 910 0] (HH h) (fun v H1 => v = .tup [] ∧ H1 = HH h1))
    (cH : FnE prog gl 331 [.ptr 910 0] (HH h1) (fun v H1 => v = .tup [.d (.int .i64 bit), .d (.list 5 (A1.map act3))] ∧ H1 = HH h2))
    (cR : FnE prog gl 333 [portV 0, .d (.int .i64 bit)] (NH n1) (fun v H1 => v = .d (.list 5 (A2.map act3)) ∧ H1 = NH n2)) :
    FnE prog gl 26 [.ptr 960 0, .d (.int .u32 x)] (NetH t h n) (fun v H1 => v = .d (.list 5 (A1.map (actT t (-1)) ++ A2.map (actT t 0))) ∧ H1 = NetH (t + 1) h2 n2) := by
  have cN := netnone_fn gl t h n hn
  have cA := hnode_fn gl h2
  have cB := pnode_fn gl 0 n1 hn1
  have m1 : (A1.map act3).length = A1.length := List.length_map _
  have m2 : (A2.map act3).length = A2.length := List.length_map _
  obtain ⟨a0, b0, c0, d0, hn⟩ := hn
  obtain ⟨a1, b1, c1, d1, hn1⟩ := hn1
  obtain ⟨a2, b2, c2, d2, hn2⟩ := hn2
  obtain ⟨nl0, nb0, no0, nm0, ns0, nr0⟩ := n
  obtain ⟨nl1, nb1, no1, nm1, ns1, nr1⟩ := n1
  obtain ⟨nl2, nb2, no2, nm2, ns2, nr2⟩ := n2
  dsimp only at hn hn1 hn2
  subst hn hn1 hn2
  unfold NetH netC at *
  (refine y_entere func26 ntmps26 results26 fun w M E b0 => ?_)
  ((repeat' first | refine tr_at 14 ?_; refine y_callE (hc := cN) ?_; try refine s_bu ?_ ?_ <;> intro hb | refine tc_at 4 ?_; refine halt ?_ | refine yyp ?_; try refine s_bu ?_ ?_ <;> intro hb | refine yy ?_ | refine at_nil ?_; refine z_nil qnw14c_0 ?_ | refine tc_seq fun K hK => ?_ | refine tc_at 14 ?_; refine z_draw [] qnw14c_2 ?_ | apply_assumption -exfalso -symm); all_goals try refine unhalt ?_)
  refine tc_row (t := 5) (e := 144) (sz := 5) rfl rfl ?_
  (repeat' first | refine yyp ?_; try refine s_bu ?_ ?_ <;> intro hb | refine yyw ?_; try refine s_bu ?_ ?_ <;> intro hb | refine yy ?_ | refine at_nil ?_; refine z_nil qnw14c_0 ?_ | refine tc_seq fun K hK => ?_ | refine tc_at 14 ?_; refine z_draw [] qnw14c_2 ?_ | apply_assumption -exfalso -symm)
  refine tc_rounds 3 (rounds_next fun K1 hK1 => ?_)
  ((repeat' first | refine tr_at 36 ?_; refine y_callE (hc := cS) ?_ | refine tr_at 37 ?_; (refine tr_keep [0, 1, 4, 5, 6, 7, 8, 9, 10, 11, 12, 21, 25, 26, 27, 28, 32, 33, 34, 36, 37, 48, 49, 50, 56] ?_); refine y_inline func63 ntmps63 results63 fun tm sy => ?_; simp only [slots, shift, zipPs, List.nil_append, List.cons_append, List.append_nil, List.map_cons, List.map_nil, List.zipIdx_cons, List.zipIdx_nil, Nat.reduceAdd]; refine halt ?_ | refine yyp ?_; try refine s_bu ?_ ?_ <;> intro hb | refine yyw ?_; try refine s_bu ?_ ?_ <;> intro hb | refine yy ?_ | refine yyv ?_; try refine s_bu ?_ ?_ <;> intro hb | refine at_nil ?_; refine z_nil qnw14c_0 ?_ | refine tc_seq fun K hK => ?_ | refine tc_at 14 ?_; refine z_draw [] qnw14c_2 ?_ | apply_assumption -exfalso -symm); all_goals try refine unhalt ?_)
  (repeat' first | refine yyp ?_; try refine s_bu ?_ ?_ <;> intro hb | refine yy ?_ | refine at_nil ?_; refine z_nil qnw14c_1 ?_ | (apply tc_mid (x := .region 4 _ _); focus ((refine tc_at 4 ?_; refine z_draw [6, 8] (linT [0, 4, 8, 12, 20] (.mid 4 (lin [27, 28, 35]) 6 (lin [17, 28, 35]))) ?_); (repeat' (first | refine tr_at 10 ?_; (refine z_alloc 2110 ?_))); (all_goals first | exact Wk.refl _ _ | exact y_wk); done)) | refine tc_seq fun K hK => ?_ | refine tc_at 4 ?_; refine z_draw [6, 8] (linT [0, 4, 8, 12, 20] (.mid 4 (lin [27, 28, 35]) 6 (lin [17, 28, 35]))) ?_ | apply_assumption -exfalso -symm)
  refine tc_rounds 2 (rounds_next fun K2 hK2 => ?_)
  (repeat' first | refine yyp ?_; try refine s_bu ?_ ?_ <;> intro hb | refine yy ?_ | refine yyc ?_ | refine at_nil ?_; refine z_nil qnw14c_1 ?_ | (apply tc_mid (x := .region 4 _ _); focus ((refine tc_at 4 ?_; refine z_draw [6, 8] (linT [0, 4, 8, 12, 20] (.mid 4 (lin [27, 28, 35]) 6 (lin [17, 28, 35]))) ?_); (repeat' (first | refine tr_at 10 ?_; (refine z_alloc 2210 ?_))); (all_goals first | exact Wk.refl _ _ | exact y_wk); done)) | refine tc_seq fun K hK => ?_ | refine tc_at 4 ?_; refine z_draw [6, 8] (linT [0, 4, 8, 12, 20] (.mid 4 (lin [27, 28, 35]) 6 (lin [17, 28, 35]))) ?_ | apply_assumption -exfalso -symm)
  (refine tc_ret (y_reti (h := by (repeat (first | exact ResE.nil | apply ResE.tmp rfl (by exact ArgE.same _) | apply ResE.cells rfl rfl (by (repeat (first | exact Cut.done _ | apply Cut.take | apply Cut.skip)); fail_if_success intros) (by (repeat (first | exact ToDs.nil | apply ToDs.cons (ToD.d _) | apply ToDs.cons (ToD.nils _) | apply ToDs.cons (ToD.own rfl))); fail_if_success intros) (by rfl) | apply ResE.cell rfl rfl rfl (by exact ArgE.same _))); fail_if_success intros) ?_))
  simp only [oneOf]
  (repeat' first | refine yyp ?_; try refine s_bu ?_ ?_ <;> intro hb | refine at_nil ?_; refine z_nil qnw14c_0 ?_)
  (repeat' first | refine tr_at 43 ?_; refine y_callE (hc := cT) ?_ | refine yyp ?_; try refine s_bu ?_ ?_ <;> intro hb | refine yyw ?_; try refine s_bu ?_ ?_ <;> intro hb | refine yy ?_ | refine at_nil ?_; refine z_nil qnw14c_0 ?_ | refine tc_seq fun K hK => ?_ | refine tc_at 14 ?_; refine z_draw [] qnw14c_2 ?_ | apply_assumption -exfalso -symm)
  unfold waysC
  refine tc_rounds 4 (rounds_next fun K3 hK3 => ?_)
  ((repeat' first | refine tr_at 56 ?_; (first | (refine z_p (q_cmp_f rfl rfl rfl rfl rfl (by simp only [cmp]; exact e0)) ?_) | (refine z_p (q_cmp_t rfl rfl rfl rfl rfl (by simp only [cmp]; exact e0)) ?_) | (refine z_p (q_cmp_f rfl rfl rfl rfl rfl (by simp only [cmp]; exact e1)) ?_) | (refine z_p (q_cmp_t rfl rfl rfl rfl rfl (by simp only [cmp]; exact e1)) ?_)) | refine tr_at 75 ?_; (refine y_invoke (hc := cH) ?_) | refine tr_at 81 ?_; (refine y_invoke (hc := cA) ?_) | refine tr_at 83 ?_; (refine tr_keep [0, 1, 4, 5, 6, 7, 8, 9, 10, 11, 12, 21, 25, 26, 27, 28, 48, 49, 50, 56, 78, 79, 81, 82, 83] ?_); refine y_inline func63 ntmps63 results63 fun tm sy => ?_; simp only [slots, shift, zipPs, List.nil_append, List.cons_append, List.append_nil, List.map_cons, List.map_nil, List.zipIdx_cons, List.zipIdx_nil, Nat.reduceAdd]; refine halt ?_ | refine yyp ?_; try refine s_bu ?_ ?_ <;> intro hb | refine yyw ?_; try refine s_bu ?_ ?_ <;> intro hb | refine yy ?_ | refine yyv ?_; try refine s_bu ?_ ?_ <;> intro hb | refine at_nil ?_; refine z_nil qnw14c_0 ?_ | refine tc_seq fun K hK => ?_ | refine tc_at 14 ?_; refine z_draw [] qnw14c_2 ?_ | apply_assumption -exfalso -symm); all_goals try refine unhalt ?_)
  (repeat' first | refine yyp ?_; try refine s_bu ?_ ?_ <;> intro hb | refine yy ?_ | refine at_nil ?_; refine z_nil qnw14c_1 ?_ | (apply tc_mid (x := .region 4 _ _); focus ((refine tc_at 4 ?_; refine z_draw [6, 8] (linT [0, 4, 8, 12, 20] (.mid 4 (lin [27, 28, 35]) 6 (lin [17, 28, 35]))) ?_); (repeat' (first | refine tr_at 10 ?_; (refine z_alloc 3210 ?_))); (all_goals first | exact Wk.refl _ _ | exact y_wk); done)) | refine tc_seq fun K hK => ?_ | refine tc_at 4 ?_; refine z_draw [6, 8] (linT [0, 4, 8, 12, 20] (.mid 4 (lin [27, 28, 35]) 6 (lin [17, 28, 35]))) ?_ | apply_assumption -exfalso -symm)
  refine y_famx (ι := Nat × Nat × List D) [1, 10, 13, 14, 15, 16, 17, 18, 19, 20, 21, 22, 23, 24, 25, 26, 27, 28] [5] (fun x => [(13, .d (.int .i64 x.1)), (1, .own 5 x.2.1)]) (fun x => [(5, .row 144 5 true x.2.2 x.2.1)])
    (fun x => x.1 ≤ A1.length ∧ x.2.2 = [] ++ (A1.take x.1).map (actT t (-1))) (fun x => A1.length - x.1) (0, 0, []) ⟨Nat.zero_le _, by dsimp only; rw [List.take_zero, List.map_nil, List.append_nil]⟩  fun ⟨j, kvA1, xs⟩ ⟨hj, hxs⟩ => ?_
  dsimp only [List.cons_append, List.nil_append] at hj hxs ⊢
  have hxl : xs.length = 0 + j := by rw [hxs]; simp only [List.length_append, List.length_map, List.length_take, Nat.min_eq_left hj, List.length_nil, Nat.zero_add]
  rcases Nat.lt_or_ge j A1.length with hjl | hjl
  · (repeat' first | refine tr_at 10 ?_; (refine z_alloc 3230 ?_) | refine tr_at 26 ?_; (refine z_lit 3246 ?_) | refine yyp ?_; try refine s_bu ?_ ?_ <;> intro hb | refine yy ?_ | (refine at_append ?_; first | (refine z_append (fun kv => ?_)) | (refine z_append_suf (fun sx sp kv hsx hsp hsl => ?_))) | refine at_nil ?_; refine z_nil qnw14c_1 ?_ | (apply tc_mid (x := .region 4 _ _); focus ((refine tc_at 4 ?_; refine z_draw [6, 8] (linT [0, 4, 8, 12, 20] (.mid 4 (lin [27, 28, 35]) 6 (lin [17, 28, 35]))) ?_); (repeat' (first | refine yyp ?_ | refine yy ?_ | refine at_nil ?_; refine z_nil qnw14c_1 ?_ | refine tr_mid ?_ ?_)); (all_goals first | exact Wk.refl _ _ | exact y_wk); done)) | refine tc_seq fun K hK => ?_ | refine tc_at 4 ?_; refine z_draw [6, 8] (linT [0, 4, 8, 12, 20] (.mid 4 (lin [27, 28, 35]) 6 (lin [17, 28, 35]))) ?_ | apply_assumption -exfalso -symm)
    refine ⟨(j + 1, kv, xs ++ [actT t (-1) A1[j]]), ⟨by dsimp only; omega, ?_⟩, by dsimp only; omega, y_wk⟩
    dsimp only
    rw [hxs, List.take_succ_eq_append_getElem hjl, List.map_append, List.map_cons, List.map_nil]
    try rw [List.append_assoc]
  obtain rfl : j = A1.length := by omega
  rw [List.take_length] at hxs
  (repeat' first | refine yyp ?_; try refine s_bu ?_ ?_ <;> intro hb | refine yy ?_ | refine at_nil ?_; refine z_nil qnw14c_1 ?_ | (apply tc_mid (x := .region 4 _ _); focus ((refine tc_at 4 ?_; refine z_draw [6, 8] (linT [0, 4, 8, 12, 20] (.mid 4 (lin [27, 28, 35]) 6 (lin [17, 28, 35]))) ?_); (repeat' (first | refine tr_at 10 ?_; (refine z_alloc 3250 ?_))); (all_goals first | exact Wk.refl _ _ | exact y_wk); done)) | refine tc_seq fun K hK => ?_ | refine tc_at 4 ?_; refine z_draw [6, 8] (linT [0, 4, 8, 12, 20] (.mid 4 (lin [27, 28, 35]) 6 (lin [17, 28, 35]))) ?_ | apply_assumption -exfalso -symm)
  (refine tc_ret (y_reti (h := by (repeat (first | exact ResE.nil | apply ResE.tmp rfl (by exact ArgE.same _) | apply ResE.cells rfl rfl (by (repeat (first | exact Cut.done _ | apply Cut.take | apply Cut.skip)); fail_if_success intros) (by (repeat (first | exact ToDs.nil | apply ToDs.cons (ToD.d _) | apply ToDs.cons (ToD.nils _) | apply ToDs.cons (ToD.own rfl))); fail_if_success intros) (by rfl) | apply ResE.cell rfl rfl rfl (by exact ArgE.same _))); fail_if_success intros) ?_))
  simp only [oneOf]
  (repeat' first | refine yyp ?_; try refine s_bu ?_ ?_ <;> intro hb | refine at_nil ?_; refine z_nil qnw14c_0 ?_)
  rw [hxs]
  clear hxs hxl hj hjl
  ((repeat' first | refine tr_at 87 ?_; (refine y_invoke (hc := cB) ?_) | refine tr_at 90 ?_; (refine y_invoke (hc := cR) ?_) | refine tr_at 91 ?_; (refine tr_keep [0, 1, 4, 5, 6, 7, 8, 9, 10, 11, 12, 21, 25, 26, 27, 28, 48, 49, 50, 56, 84, 85, 87, 90, 91] ?_); refine y_inline func63 ntmps63 results63 fun tm sy => ?_; simp only [slots, shift, zipPs, List.nil_append, List.cons_append, List.append_nil, List.map_cons, List.map_nil, List.zipIdx_cons, List.zipIdx_nil, Nat.reduceAdd]; refine halt ?_ | refine yyp ?_; try refine s_bu ?_ ?_ <;> intro hb | refine yy ?_ | refine tc_seq fun K hK => ?_ | refine tc_at 14 ?_; refine z_draw [] qnw14c_2 ?_ | apply_assumption -exfalso -symm); all_goals try refine unhalt ?_)
  (repeat' first | refine yyp ?_; try refine s_bu ?_ ?_ <;> intro hb | refine yy ?_ | refine at_nil ?_; refine z_nil qnw14c_1 ?_ | (apply tc_mid (x := .region 4 _ _); focus ((refine tc_at 4 ?_; refine z_draw [6, 8] (linT [0, 4, 8, 12, 20] (.mid 4 (lin [27, 28, 35]) 6 (lin [17, 28, 35]))) ?_); (repeat' (first | refine tr_at 10 ?_; (refine z_alloc 3510 ?_))); (all_goals first | exact Wk.refl _ _ | exact y_wk); done)) | refine tc_seq fun K hK => ?_ | refine tc_at 4 ?_; refine z_draw [6, 8] (linT [0, 4, 8, 12, 20] (.mid 4 (lin [27, 28, 35]) 6 (lin [17, 28, 35]))) ?_ | apply_assumption -exfalso -symm)
  refine y_famx (ι := Nat × Nat × List D) [1, 10, 13, 14, 15, 16, 17, 18, 19, 20, 21, 22, 23, 24, 25, 26, 27, 28] [5] (fun x => [(13, .d (.int .i64 x.1)), (1, .own 5 x.2.1)]) (fun x => [(5, .row 144 5 true x.2.2 x.2.1)])
    (fun x => x.1 ≤ A2.length ∧ x.2.2 = A1.map (actT t (-1)) ++ (A2.take x.1).map (actT t (0))) (fun x => A2.length - x.1) (0, kvA1, A1.map (actT t (-1))) ⟨Nat.zero_le _, by dsimp only; rw [List.take_zero, List.map_nil, List.append_nil]⟩  fun ⟨j, kvA2, xs⟩ ⟨hj, hxs⟩ => ?_
  dsimp only [List.cons_append, List.nil_append] at hj hxs ⊢
  have hxl : xs.length = A1.length + j := by rw [hxs]; simp only [List.length_append, List.length_map, List.length_take, Nat.min_eq_left hj, List.length_nil, Nat.zero_add]
  rcases Nat.lt_or_ge j A2.length with hjl | hjl
  · (repeat' first | refine tr_at 10 ?_; (refine z_alloc 3530 ?_) | refine tr_at 26 ?_; (refine z_lit 3546 ?_) | refine yyp ?_; try refine s_bu ?_ ?_ <;> intro hb | refine yy ?_ | (refine at_append ?_; first | (refine z_append (fun kv => ?_)) | (refine z_append_suf (fun sx sp kv hsx hsp hsl => ?_))) | refine at_nil ?_; refine z_nil qnw14c_1 ?_ | (apply tc_mid (x := .region 4 _ _); focus ((refine tc_at 4 ?_; refine z_draw [6, 8] (linT [0, 4, 8, 12, 20] (.mid 4 (lin [27, 28, 35]) 6 (lin [17, 28, 35]))) ?_); (repeat' (first | refine yyp ?_ | refine yy ?_ | refine at_nil ?_; refine z_nil qnw14c_1 ?_ | refine tr_mid ?_ ?_)); (all_goals first | exact Wk.refl _ _ | exact y_wk); done)) | refine tc_seq fun K hK => ?_ | refine tc_at 4 ?_; refine z_draw [6, 8] (linT [0, 4, 8, 12, 20] (.mid 4 (lin [27, 28, 35]) 6 (lin [17, 28, 35]))) ?_ | apply_assumption -exfalso -symm)
    refine ⟨(j + 1, kv, xs ++ [actT t (0) A2[j]]), ⟨by dsimp only; omega, ?_⟩, by dsimp only; omega, y_wk⟩
    dsimp only
    rw [hxs, List.take_succ_eq_append_getElem hjl, List.map_append, List.map_cons, List.map_nil]
    try rw [List.append_assoc]
  obtain rfl : j = A2.length := by omega
  rw [List.take_length] at hxs
  (repeat' first | refine yyp ?_; try refine s_bu ?_ ?_ <;> intro hb | refine yy ?_ | refine at_nil ?_; refine z_nil qnw14c_1 ?_ | (apply tc_mid (x := .region 4 _ _); focus ((refine tc_at 4 ?_; refine z_draw [6, 8] (linT [0, 4, 8, 12, 20] (.mid 4 (lin [27, 28, 35]) 6 (lin [17, 28, 35]))) ?_); (repeat' (first | refine tr_at 10 ?_; (refine z_alloc 3550 ?_))); (all_goals first | exact Wk.refl _ _ | exact y_wk); done)) | refine tc_seq fun K hK => ?_ | refine tc_at 4 ?_; refine z_draw [6, 8] (linT [0, 4, 8, 12, 20] (.mid 4 (lin [27, 28, 35]) 6 (lin [17, 28, 35]))) ?_ | apply_assumption -exfalso -symm)
  (refine tc_ret (y_reti (h := by (repeat (first | exact ResE.nil | apply ResE.tmp rfl (by exact ArgE.same _) | apply ResE.cells rfl rfl (by (repeat (first | exact Cut.done _ | apply Cut.take | apply Cut.skip)); fail_if_success intros) (by (repeat (first | exact ToDs.nil | apply ToDs.cons (ToD.d _) | apply ToDs.cons (ToD.nils _) | apply ToDs.cons (ToD.own rfl))); fail_if_success intros) (by rfl) | apply ResE.cell rfl rfl rfl (by exact ArgE.same _))); fail_if_success intros) ?_))
  simp only [oneOf]
  (repeat' first | refine yyp ?_; try refine s_bu ?_ ?_ <;> intro hb | refine at_nil ?_; refine z_nil qnw14c_0 ?_)
  rw [hxs]
  clear hxs hxl hj hjl
  (repeat' first | refine tr_at 56 ?_; (first | (refine z_p (q_cmp_f rfl rfl rfl rfl rfl (by simp only [cmp]; exact e0)) ?_) | (refine z_p (q_cmp_t rfl rfl rfl rfl rfl (by simp only [cmp]; exact e0)) ?_) | (refine z_p (q_cmp_f rfl rfl rfl rfl rfl (by simp only [cmp]; exact e1)) ?_) | (refine z_p (q_cmp_t rfl rfl rfl rfl rfl (by simp only [cmp]; exact e1)) ?_)) | refine yyp ?_; try refine s_bu ?_ ?_ <;> intro hb | refine yy ?_ | refine at_nil ?_; refine z_nil qnw14c_0 ?_ | refine tc_seq fun K hK => ?_ | refine tc_at 14 ?_; refine z_draw [] qnw14c_2 ?_ | apply_assumption -exfalso -symm)
  (refine tc_ret (y_rete ⟨?_, rfl⟩))
  rfl
end
section
def qnw14d_0 : List Nat := [0, 1, 4, 5, 6, 7, 8, 9, 10, 11, 12, 21, 25, 26, 27, 28, 48, 49, 50, 56]
def qnw14d_1 : Plan := lin [0, 4, 8, 16, 32, 36, 40, 48, 13, 20, 24, 29, 64, 45, 52, 56, 61, 68]
open Go.RowKit Nd
attribute [local irreducible] TR TC
theorem netheld_D (gl : List (Nat × List D)) (t : Nat) (ht : t < 2147483647) (x : Int) (e0 : heldE x 0) (e1 : heldE x (0 + 1)) (h h1 : Ho) (n n1 : NB) (hn : n.four) (hn1 : n1.four)
    (cS : FnE prog gl 18 [.ptr 900 0] (NH n) (fun v H1 => v = .d (.list 0 []) ∧ H1 = NH n1))
    (cT : FnE prog gl 64 [.ptr 910 0] (HH h) (fun v H1 => v = .tup [] ∧ H1 = HH h1)) :
    FnE prog gl 26 [.ptr 960 0, .d (.int .u32 x)] (NetH t h n) (fun v H1 => v = .d (.list 5 ([])) ∧ H1 = NetH (t + 1) h1 n1) := by
  have cN := netnone_fn gl t h n hn
  obtain ⟨a0, b0, c0, d0, hn⟩ := hn
  obtain ⟨a1, b1, c1, d1, hn1⟩ := hn1
  obtain ⟨nl0, nb0, no0, nm0, ns0, nr0⟩ := n
  obtain ⟨nl1, nb1, no1, nm1, ns1, nr1⟩ := n1
  dsimp only at hn hn1
  subst hn hn1
  unfold NetH netC at *
  (refine y_entere func26 ntmps26 results26 fun w M E b0 => ?_)
  ((repeat' first | refine tr_at 14 ?_; refine y_callE (hc := cN) ?_; try refine s_bu ?_ ?_ <;> intro hb | refine tc_at 4 ?_; refine halt ?_ | refine yyp ?_; try refine s_bu ?_ ?_ <;> intro hb | refine yy ?_ | refine at_nil ?_; refine z_nil qnw14d_0 ?_ | refine tc_seq fun K hK => ?_ | refine tc_at 14 ?_; refine z_draw [] qnw14d_1 ?_ | apply_assumption -exfalso -symm); all_goals try refine unhalt ?_)
  refine tc_row (t := 5) (e := 144) (sz := 5) rfl rfl ?_
  (repeat' first | refine yyp ?_; try refine s_bu ?_ ?_ <;> intro hb | refine yyw ?_; try refine s_bu ?_ ?_ <;> intro hb | refine yy ?_ | refine at_nil ?_; refine z_nil qnw14d_0 ?_ | refine tc_seq fun K hK => ?_ | refine tc_at 14 ?_; refine z_draw [] qnw14d_1 ?_ | apply_assumption -exfalso -symm)
  refine tc_rounds 3 (rounds_next fun K1 hK1 => ?_)
  ((repeat' first | refine tr_at 36 ?_; refine y_callE (hc := cS) ?_ | refine tr_at 37 ?_; (refine tr_keep [0, 1, 4, 5, 6, 7, 8, 9, 10, 11, 12, 21, 25, 26, 27, 28, 32, 33, 34, 36, 37, 48, 49, 50, 56] ?_); refine y_inline func63 ntmps63 results63 fun tm sy => ?_; simp only [slots, shift, zipPs, List.nil_append, List.cons_append, List.append_nil, List.map_cons, List.map_nil, List.zipIdx_cons, List.zipIdx_nil, Nat.reduceAdd]; refine halt ?_ | refine yyp ?_; try refine s_bu ?_ ?_ <;> intro hb | refine yyw ?_; try refine s_bu ?_ ?_ <;> intro hb | refine yy ?_ | refine yyv ?_; try refine s_bu ?_ ?_ <;> intro hb | refine at_nil ?_; refine z_nil qnw14d_0 ?_ | refine tc_seq fun K hK => ?_ | refine tc_at 14 ?_; refine z_draw [] qnw14d_1 ?_ | apply_assumption -exfalso -symm); all_goals try refine unhalt ?_)
  (repeat' first | refine yyp ?_; try refine s_bu ?_ ?_ <;> intro hb | refine yy ?_ | refine at_nil ?_; refine z_nil [0, 1, 2, 3, 8, 10, 11, 12, 13, 14] ?_ | (apply tc_mid (x := .region 4 _ _); focus ((refine tc_at 4 ?_; refine z_draw [6, 8] (linT [0, 4, 8, 12, 20] (.mid 4 (lin [27, 28, 35]) 6 (lin [17, 28, 35]))) ?_); (repeat' (first | refine tr_at 10 ?_; (refine z_alloc 2110 ?_))); (all_goals first | exact Wk.refl _ _ | exact y_wk); done)) | refine tc_seq fun K hK => ?_ | refine tc_at 4 ?_; refine z_draw [6, 8] (linT [0, 4, 8, 12, 20] (.mid 4 (lin [27, 28, 35]) 6 (lin [17, 28, 35]))) ?_ | apply_assumption -exfalso -symm)
  refine tc_rounds 2 (rounds_next fun K2 hK2 => ?_)
  (repeat' first | refine yyp ?_; try refine s_bu ?_ ?_ <;> intro hb | refine yy ?_ | refine yyc ?_ | refine at_nil ?_; refine z_nil [0, 1, 2, 3, 8, 10, 11, 12, 13, 14] ?_ | (apply tc_mid (x := .region 4 _ _); focus ((refine tc_at 4 ?_; refine z_draw [6, 8] (linT [0, 4, 8, 12, 20] (.mid 4 (lin [27, 28, 35]) 6 (lin [17, 28, 35]))) ?_); (repeat' (first | refine tr_at 10 ?_; (refine z_alloc 2210 ?_))); (all_goals first | exact Wk.refl _ _ | exact y_wk); done)) | refine tc_seq fun K hK => ?_ | refine tc_at 4 ?_; refine z_draw [6, 8] (linT [0, 4, 8, 12, 20] (.mid 4 (lin [27, 28, 35]) 6 (lin [17, 28, 35]))) ?_ | apply_assumption -exfalso -symm)
  (refine tc_ret (y_reti (h := by (repeat (first | exact ResE.nil | apply ResE.tmp rfl (by exact ArgE.same _) | apply ResE.cells rfl rfl (by (repeat (first | exact Cut.done _ | apply Cut.take | apply Cut.skip)); fail_if_success intros) (by (repeat (first | exact ToDs.nil | apply ToDs.cons (ToD.d _) | apply ToDs.cons (ToD.nils _) | apply ToDs.cons (ToD.own rfl))); fail_if_success intros) (by rfl) | apply ResE.cell rfl rfl rfl (by exact ArgE.same _))); fail_if_success intros) ?_))
  simp only [oneOf]
  (repeat' first | refine yyp ?_; try refine s_bu ?_ ?_ <;> intro hb | refine at_nil ?_; refine z_nil qnw14d_0 ?_)
  (repeat' first | refine tr_at 43 ?_; refine y_callE (hc := cT) ?_ | refine yyp ?_; try refine s_bu ?_ ?_ <;> intro hb | refine yyw ?_; try refine s_bu ?_ ?_ <;> intro hb | refine yy ?_ | refine at_nil ?_; refine z_nil qnw14d_0 ?_ | refine tc_seq fun K hK => ?_ | refine tc_at 14 ?_; refine z_draw [] qnw14d_1 ?_ | apply_assumption -exfalso -symm)
  unfold waysC
  refine tc_rounds 4 (rounds_next fun K3 hK3 => ?_)
  (repeat' first | refine tr_at 56 ?_; (first | (refine z_p (q_cmp_f rfl rfl rfl rfl rfl (by simp only [cmp]; exact e0)) ?_) | (refine z_p (q_cmp_t rfl rfl rfl rfl rfl (by simp only [cmp]; exact e0)) ?_) | (refine z_p (q_cmp_f rfl rfl rfl rfl rfl (by simp only [cmp]; exact e1)) ?_) | (refine z_p (q_cmp_t rfl rfl rfl rfl rfl (by simp only [cmp]; exact e1)) ?_)) | refine yyp ?_; try refine s_bu ?_ ?_ <;> intro hb | refine yy ?_ | refine at_nil ?_; refine z_nil qnw14d_0 ?_ | refine tc_seq fun K hK => ?_ | refine tc_at 14 ?_; refine z_draw [] qnw14d_1 ?_ | apply_assumption -exfalso -symm)
  (refine tc_ret (y_rete ⟨?_, rfl⟩))
  rfl
end
end Go.Proofs.YtjhbglklcddekaaGreatDoor
