/- Parts: H4. -/
import Derived.Test.YtcblefmjacofgaaDoorA14
import Derived.Test.YtcblefmjacofgaaDoorA18
set_option linter.all false
set_option linter.unusedVariables false
set_option linter.unusedSimpArgs false
namespace Go.Proofs.YtcblefmjacofgaaDoor
open Go.RowKit
namespace Im
theorem prog_put {l : List I.Cmd} (h : I.Prog l) (hs : I.sizeC l ≤ 1048576) : I.putC l = (l.flatMap I.oneC, 0) := by
  unfold I.putC
  rw [if_pos (List.all_eq_true.2 fun c hc => (h.1 c hc).1), if_pos hs]
theorem whole_len (l : List I.Cmd) : (whole l).length = 41 + I.sizeC l := by
  unfold whole
  rw [List.length_append, I.ones_length]
  rfl
theorem took_size {t : To.Topo} {o : List (List I.Cmd)} {n : Int} (h : ∀ m, To.Desc t n m → Took t o m) {l : List I.Cmd} (hl : o[n.toNat]? = some l) : ∀ m, To.Desc t n m → ∀ l', o[m.toNat]? = some l' → I.sizeC l' ≤ I.sizeC l := by
  intro m hd
  induction hd with
  | self => intro l' h'; rw [hl] at h'; cases h'; exact Nat.le_refl _
  | step hd hk ih =>
    intro l' h'
    obtain ⟨l1, h1, _, _, h4⟩ := (h _ hd).prog
    obtain ⟨l2, h5, h6⟩ := h4 _ hk
    rw [h'] at h5
    cases h5
    have e := congrArg List.length h6
    rw [whole_len] at e
    have := Im.got_len l1 (by assumption)
    have := ih _ h1
    omega
end Im
attribute [local irreducible] TR TC
set_option maxRecDepth 100000 in
set_option maxHeartbeats 4000000 in
theorem shape1_fn (o : List (List I.Cmd)) (n : Int) (l : List I.Cmd) (h0 : 0 ≤ n) (hl : o[n.toNat]? = some l) (hp : I.Prog l) (hs : I.sizeC l ≤ 1000000) :
    FnE Tryd.prog glT 17 [.d (.int .i64 n), .ptr 5 0] [(5, .box [.d (.list 1 (o.map dOut))])] (fun v H1 => v = .d (dBytes (Im.whole l)) ∧ H1 = [(5, .box [.d (.list 1 (o.map dOut))])]) := by
  have hput := lput_fn glT l (fun c hc => (hp.1 c hc).2)
  rw [Im.prog_put hp (by omega)] at hput
  have hget : (o.map dOut)[n.toNat]? = some (.list 4 (l.map dCmd)) := by rw [List.getElem?_map, hl]; rfl
  have hnl : n.toNat < o.length := (List.getElem?_eq_some_iff.1 hl).1
  have hol := I.ones_length l
  unfold dBytes at hput
  generalize hb : l.flatMap I.oneC = bs at hput hol
  have hbo : I.bootB.length = 41 := by decide
  (refine y_entere Tryd.func17 Tryd.ntmps17 Tryd.results17 fun w M E b0 => ?_; simp only [slots, List.map_cons, List.map_nil, List.zipIdx_cons, List.zipIdx_nil, Nat.reduceAdd])
  ((repeat' (first | (refine tr_at 16 ?_; refine y_callG (hc := boot_o) ?_) | (refine z_append0 (d := 18) 18 ?_) | (refine yyp ?_; (try refine s_bu ?_ ?_ <;> (intro hb; try simp only [decide_eq_true_eq, decide_eq_false_iff_not] at hb))) | (refine yy ?_) | (refine yy2 ?_ ?_ <;> (intro hcmp; try simp only [cmp] at hcmp)) | (refine y_call (hc := (hput)) ?_) | (refine z_append (fun kv => ?_)) | (refine z_append_suf (fun sx sp kv hsx hsp hsl => ?_)) | (refine z_nil [0, 1, 3, 4, 5, 6, 15] ?_) | (refine tc_seq fun K hK => ?_) | (apply_assumption -exfalso -symm))); all_goals (try refine unhalt ?_))
  (refine tc_ret (y_rete ⟨?_, rfl⟩))
  simp only [oneOf, Im.whole, dBytes, hb, List.map_append]
set_option maxRecDepth 100000 in
set_option maxHeartbeats 8000000 in
theorem shape_fn (t : To.Topo) (b : List UInt8) : FnD Tryd.prog glT 6 [.d (dTopo t), .d (dBytes b)] (fun v => v = .d (.bool true)) := by
  rcases Nat.lt_or_ge 40000 b.length with hb | hb
  · unfold dTopo
    (refine y_enter Tryd.func6 Tryd.ntmps6 Tryd.results6 fun w M => ?_; simp only [slots, List.map_cons, List.map_nil, List.zipIdx_cons, List.zipIdx_nil, Nat.reduceAdd])
    ((repeat' (first | (refine z_box (d := 2) 2 ?_) | (refine z_alloc (d := 5) 5 ?_) | (refine z_alloc (d := 15) 15 ?_) | (refine z_append0 (d := 101) 101 ?_) | (refine z_alloc (d := 16) 16 ?_) | (refine yyp ?_; (try refine s_bu ?_ ?_ <;> (intro hb; try simp only [decide_eq_true_eq, decide_eq_false_iff_not] at hb))) | (refine yy ?_) | (refine yy2 ?_ ?_ <;> (intro hcmp; try simp only [cmp] at hcmp)) | (refine y_call (hc := (awake_fn)) ?_; (try refine s_bu ?_ ?_ <;> (intro hb; try simp only [decide_eq_true_eq, decide_eq_false_iff_not] at hb))) | (refine z_append (fun kv => ?_)) | (refine z_append_suf (fun sx sp kv hsx hsp hsl => ?_)) | (refine z_nil [0, 1, 2, 4, 5, 6, 7, 8, 9, 12, 13, 15, 16, 20, 29, 59, 61, 62, 63, 71, 72, 73, 74, 80, 81, 82, 83, 97, 117] ?_) | (refine tc_seq fun K hK => ?_) | (apply_assumption -exfalso -symm))); all_goals (try refine unhalt ?_))
    (refine tc_ret (y_ret ?_))
    rfl
  have hsp := Split_fn t b (by omega)
  by_cases hmay : To.May t
  case neg =>
    unfold Im.split at hsp
    rw [if_neg hmay] at hsp
    unfold dTopo at hsp ⊢
    (refine y_enter Tryd.func6 Tryd.ntmps6 Tryd.results6 fun w M => ?_; simp only [slots, List.map_cons, List.map_nil, List.zipIdx_cons, List.zipIdx_nil, Nat.reduceAdd])
    ((repeat' (first | (refine z_box (d := 2) 2 ?_) | (refine z_alloc (d := 5) 5 ?_) | (refine z_alloc (d := 15) 15 ?_) | (refine z_append0 (d := 101) 101 ?_) | (refine z_alloc (d := 16) 16 ?_) | (refine yyp ?_; (try refine s_bu ?_ ?_ <;> (intro hb; try simp only [decide_eq_true_eq, decide_eq_false_iff_not] at hb))) | (refine yy ?_) | (refine yy2 ?_ ?_ <;> (intro hcmp; try simp only [cmp] at hcmp)) | (refine y_call (hc := (awake_fn)) ?_; (try refine s_bu ?_ ?_ <;> (intro hb; try simp only [decide_eq_true_eq, decide_eq_false_iff_not] at hb))) | (refine y_call (hc := (hsp)) ?_) | (refine z_append (fun kv => ?_)) | (refine z_append_suf (fun sx sp kv hsx hsp hsl => ?_)) | (refine z_nil [0, 1, 2, 4, 5, 6, 7, 8, 9, 12, 13, 15, 16, 20, 29, 59, 61, 62, 63, 71, 72, 73, 74, 80, 81, 82, 83, 97, 117] ?_) | (refine tc_seq fun K hK => ?_) | (apply_assumption -exfalso -symm))); all_goals (try refine unhalt ?_))
    all_goals first | (exfalso; omega) | (exfalso; simp at hcmp; done) | ((refine tc_ret (y_ret ?_)); rfl)
  unfold Im.split at hsp
  rw [if_pos hmay] at hsp
  cases hrec : Im.recv t 9 t.host.node b (List.replicate t.nodes.toNat []) with
  | none =>
    rw [hrec] at hsp
    unfold dTopo at hsp ⊢
    (refine y_enter Tryd.func6 Tryd.ntmps6 Tryd.results6 fun w M => ?_; simp only [slots, List.map_cons, List.map_nil, List.zipIdx_cons, List.zipIdx_nil, Nat.reduceAdd])
    ((repeat' (first | (refine z_box (d := 2) 2 ?_) | (refine z_alloc (d := 5) 5 ?_) | (refine z_alloc (d := 15) 15 ?_) | (refine z_append0 (d := 101) 101 ?_) | (refine z_alloc (d := 16) 16 ?_) | (refine yyp ?_; (try refine s_bu ?_ ?_ <;> (intro hb; try simp only [decide_eq_true_eq, decide_eq_false_iff_not] at hb))) | (refine yy ?_) | (refine yy2 ?_ ?_ <;> (intro hcmp; try simp only [cmp] at hcmp)) | (refine y_call (hc := (awake_fn)) ?_; (try refine s_bu ?_ ?_ <;> (intro hb; try simp only [decide_eq_true_eq, decide_eq_false_iff_not] at hb))) | (refine y_call (hc := (hsp)) ?_) | (refine z_append (fun kv => ?_)) | (refine z_append_suf (fun sx sp kv hsx hsp hsl => ?_)) | (refine z_nil [0, 1, 2, 4, 5, 6, 7, 8, 9, 12, 13, 15, 16, 20, 29, 59, 61, 62, 63, 71, 72, 73, 74, 80, 81, 82, 83, 97, 117] ?_) | (refine tc_seq fun K hK => ?_) | (apply_assumption -exfalso -symm))); all_goals (try refine unhalt ?_))
    all_goals first | (exfalso; omega) | (exfalso; simp at hcmp; done) | ((refine tc_ret (y_ret ?_)); rfl)
  | some o =>
    rw [hrec] at hsp
    have hn := hmay.sound.n
    obtain ⟨mz, ho⟩ := To.order_zero t
    have hz : 0 < (To.order t).length := by rw [ho]; simp
    have ez : (To.order t)[0].node = t.host.node := by simp [ho]
    have hol : o.length = t.nodes.toNat := by rw [Im.recv_length _ _ _ _ _ hrec, List.length_replicate]
    have htk := Im.recv_took hmay 9 0 hz b (List.replicate t.nodes.toNat []) o (by rw [ez]; exact hrec) (by rw [List.length_replicate]; omega)
    rw [ez] at htk
    obtain ⟨⟨lh, hlh, hbw⟩, htk⟩ := htk
    have hhost := hmay.sound.host
    unfold To.inR at hhost
    have hwl := Im.whole_len lh
    rw [← hbw] at hwl
    have hsz := Im.took_size htk hlh
    have hat : ∀ i, i < o.length → To.Desc t t.host.node (i : Int) := fun i hi => by
      obtain ⟨p, q1, q2⟩ := To.all_nodes hmay (n := (i : Int)) (by omega) (by omega)
      obtain ⟨j, hj, rfl⟩ := List.mem_iff_getElem.1 q1
      rw [← q2]
      exact To.all_behind hmay j hj
    have hchild : ∀ (i : Nat) k, i < o.length → k ∈ To.kids t (i : Int) → 0 ≤ Im.child t (i : Int) k := fun i k hi hk => by
      obtain ⟨p, q1, q2⟩ := To.all_nodes hmay (n := (i : Int)) (by omega) (by omega)
      obtain ⟨j, hj, rfl⟩ := List.mem_iff_getElem.1 q1
      rw [← q2] at hk ⊢
      obtain ⟨j', _, hj', e⟩ := Im.child_at hmay hj hk
      rw [← e]
      exact ((To.order_good hmay.sound).range _ (List.getElem_mem hj')).1
    have hw0 := shape1_fn o t.host.node lh hhost.1 hlh (by
      obtain ⟨l, h1, h2, _⟩ := (htk _ .self).prog
      rw [hlh] at h1; cases h1; exact h2) (by omega)
    have heq0 := bytes_equal_fn glT (Im.whole lh) b
    rw [decide_eq_true hbw.symm] at heq0
    have hC : ∀ i : Nat, i < o.length → FnD Tryd.prog glT 20 [.d (dTopo t), .d (.int .i64 (i : Int))] (fun v => v = .tup [.d (.list 1 ((To.kids t (i : Int)).map dInt)), .d (.int .i64 0)]) := fun i hi => by
      have := tchildren_fn glT t (i : Int)
      unfold To.children at this
      rw [if_pos hmay, if_neg (by omega)] at this
      exact this
    have hP : ∀ (i : Nat) k, k ∈ To.kids t (i : Int) → ∃ lk, FnD Tryd.prog glT 21 [.d (dTopo t), .d (.agg [.int .i64 (i : Int), .int .i64 (k : Nat)])] (fun v => v = .tup [.d (.agg [.int .i64 (Im.child t (i : Int) k), .int .i64 lk]), .d (.bool true)]) := fun i k hk => by
      have := tpeer_fn glT t ⟨(i : Int), (k : Nat)⟩
      have hk' := (List.mem_filter.1 hk).2
      unfold To.kid at hk'
      simp only [Bool.and_eq_true] at hk'
      rw [if_pos hmay, hk'.1, decide_eq_true hmay] at this
      exact ⟨_, this⟩
    have hkl := fun i : Nat => Im.kids_len t (i : Int)
    have hk4 := fun (i : Nat) k (h : k ∈ To.kids t (i : Int)) => Im.kids_lt h
    unfold dTopo at hsp hC hP ⊢
    (refine y_enter Tryd.func6 Tryd.ntmps6 Tryd.results6 fun w M => ?_; simp only [slots, List.map_cons, List.map_nil, List.zipIdx_cons, List.zipIdx_nil, Nat.reduceAdd])
    ((repeat' (first | (refine z_box (d := 2) 2 ?_) | (refine z_alloc (d := 5) 5 ?_) | (refine tr_at 55 ?_; refine y_callE (hc := hw0) ?_) | (refine z_alloc (d := 15) 15 ?_) | (refine z_append0 (d := 101) 101 ?_) | (refine z_alloc (d := 16) 16 ?_) | (refine yyp ?_; (try refine s_bu ?_ ?_ <;> (intro hb; try simp only [decide_eq_true_eq, decide_eq_false_iff_not] at hb))) | (refine yy ?_) | (refine yy2 ?_ ?_ <;> (intro hcmp; try simp only [cmp] at hcmp)) | (refine y_call (hc := (hsp)) ?_) | (refine y_call (hc := (heq0)) ?_; (try refine s_bu ?_ ?_ <;> (intro hb; try simp only [decide_eq_true_eq, decide_eq_false_iff_not] at hb))) | (refine z_append (fun kv => ?_)) | (refine z_append_suf (fun sx sp kv hsx hsp hsl => ?_)) | (refine z_nil [0, 1, 2, 4, 5, 6, 7, 8, 9, 12, 13, 15, 16, 20, 29, 59, 61, 62, 63, 71, 72, 73, 74, 80, 81, 82, 83, 97, 117] ?_) | (refine tc_seq fun K hK => ?_) | (apply_assumption -exfalso -symm))); all_goals (try refine unhalt ?_))
    refine y_famx [4, 8, 9, 10, 12, 13, 15, 16, 17, 62, 63, 64, 65, 66, 67, 68, 69, 70, 71, 72, 73, 74, 75, 76, 77, 78, 79, 80, 81, 82, 83, 84, 85, 86, 87, 88, 89, 90, 91, 92, 93, 94, 95, 96, 97, 98, 99, 100, 101, 102, 103, 104, 105, 106, 107, 108, 109, 110, 111, 112, 113, 114, 115, 116, 117, 118, 119] [] (fun i : Nat => [(62, .d (.int .i64 i))]) (fun _ => []) (fun i => i ≤ o.length) (fun i => o.length - i) 0 (Nat.zero_le _)  fun i hi => ?_
    dsimp only [List.cons_append, List.nil_append] at hi ⊢
    rcases Nat.lt_or_ge i o.length with hil | hil
    · obtain ⟨L, hL, hLp, _, hLk⟩ := (htk _ (hat i hil)).prog
      rw [show ((i : Int)).toNat = i from rfl] at hL
      have hLs : I.sizeC L ≤ 40000 := by have := hsz _ (hat i hil) L hL; omega
      have hLl := Im.size_len L
      have hget2 : (o.map dOut)[i]? = some (.list 4 (L.map dCmd)) := by rw [List.getElem?_map, hL]; rfl
      have hCi := hC i hil
      have hPi := hP i
      have hkli := hkl i
      have hk4i := hk4 i
      have hdes := fun k hk => htk _ ((hat i hil).step (k := k) hk)
      have hchi := fun k hk => hchild i k hil hk
      generalize To.kids t (i : Int) = ks at *
      ((repeat' (first | (refine z_box (d := 2) 2 ?_) | (refine z_alloc (d := 5) 5 ?_) | (refine z_alloc (d := 15) 15 ?_) | (refine z_append0 (d := 101) 101 ?_) | (refine z_alloc (d := 16) 16 ?_) | (refine yyp ?_; (try refine s_bu ?_ ?_ <;> (intro hb; try simp only [decide_eq_true_eq, decide_eq_false_iff_not] at hb))) | (refine yy ?_) | (refine yy2 ?_ ?_ <;> (intro hcmp; try simp only [cmp] at hcmp)) | (refine y_call (hc := (hCi)) ?_) | (refine z_append (fun kv => ?_)) | (refine z_append_suf (fun sx sp kv hsx hsp hsl => ?_)) | (refine z_nil [0, 1, 2, 4, 5, 6, 7, 8, 9, 12, 13, 15, 16, 20, 29, 59, 61, 62, 63, 71, 72, 73, 74, 80, 81, 82, 83, 97, 117] ?_) | (refine tc_seq fun K hK => ?_) | (apply_assumption -exfalso -symm))); all_goals (try refine unhalt ?_))
      refine y_famx [4, 12, 13, 15, 16, 17, 73, 74, 75, 76, 77, 78, 79, 80, 81, 82, 83, 84, 85, 86, 87, 88, 89, 90, 91, 92, 93, 94, 95, 96, 97, 98, 99, 100, 101, 102, 103, 104, 105, 106, 107, 108, 109, 110, 111, 112, 113, 114, 115, 116, 117, 118] [] (fun j : Nat => [(73, .d (.int .i64 j))]) (fun _ => []) (fun j => j ≤ ks.length) (fun j => ks.length - j) 0 (Nat.zero_le _)  fun j hj => ?_
      dsimp only [List.cons_append, List.nil_append] at hj ⊢
      rcases Nat.lt_or_ge j ks.length with hjl | hjl
      · have hkm := List.getElem_mem hjl
        have hq4 := hk4i _ hkm
        obtain ⟨lk, hPk⟩ := hPi _ hkm
        obtain ⟨l', hl', hgw⟩ := hLk _ hkm
        obtain ⟨l2, h21, h22, _⟩ := (hdes _ hkm).prog
        rw [hl'] at h21
        cases h21
        have hls : I.sizeC l' ≤ 1000000 := by
          have := congrArg List.length hgw
          rw [Im.whole_len] at this
          have := Im.got_len L ks[j]
          omega
        have hw1 := shape1_fn o _ l' (hchi _ hkm) hl' h22 hls
        have heq1 := bytes_equal_fn glT (Im.got L ks[j]) (Im.whole l')
        rw [decide_eq_true hgw] at heq1
        have hgetk : (ks.map dInt)[j]? = some (.int .i64 (ks[j] : Nat)) := by rw [List.getElem?_map, List.getElem?_eq_getElem hjl]; rfl
        generalize ks[j] = q at *
        ((repeat' (first | (refine z_box (d := 2) 2 ?_) | (refine z_alloc (d := 5) 5 ?_) | (refine z_alloc (d := 15) 15 ?_) | (refine z_append0 (d := 101) 101 ?_) | (refine z_alloc (d := 16) 16 ?_) | (refine tc_at 17 ?_; refine halt ?_) | (refine yyp ?_; (try refine s_bu ?_ ?_ <;> (intro hb; try simp only [decide_eq_true_eq, decide_eq_false_iff_not] at hb))) | (refine yy ?_) | (refine yy2 ?_ ?_ <;> (intro hcmp; try simp only [cmp] at hcmp)) | (refine z_append (fun kv => ?_)) | (refine z_append_suf (fun sx sp kv hsx hsp hsl => ?_)) | (refine z_nil [0, 1, 2, 4, 5, 6, 7, 8, 9, 12, 13, 15, 16, 20, 29, 59, 61, 62, 63, 71, 72, 73, 74, 80, 81, 82, 83, 97, 117] ?_) | (refine tc_seq fun K hK => ?_) | (apply_assumption -exfalso -symm))); all_goals (try refine unhalt ?_))
        refine tc_row (t := 13) (e := 5) (sz := 1) rfl rfl ?_
        ((repeat' (first | (refine z_box (d := 2) 2 ?_) | (refine z_alloc (d := 5) 5 ?_) | (refine z_alloc (d := 15) 15 ?_) | (refine z_append0 (d := 101) 101 ?_) | (refine z_alloc (d := 16) 16 ?_) | (refine yyp ?_; (try refine s_bu ?_ ?_ <;> (intro hb; try simp only [decide_eq_true_eq, decide_eq_false_iff_not] at hb))) | (refine yy ?_) | (refine yy2 ?_ ?_ <;> (intro hcmp; try simp only [cmp] at hcmp)) | (refine z_append (fun kv => ?_)) | (refine z_append_suf (fun sx sp kv hsx hsp hsl => ?_)) | (refine z_nil [0, 1, 2, 4, 5, 6, 7, 8, 9, 12, 13, 15, 16, 20, 29, 59, 61, 62, 63, 71, 72, 73, 74, 80, 81, 82, 83, 97, 117] ?_) | (refine tc_seq fun K hK => ?_) | (apply_assumption -exfalso -symm))); all_goals (try refine unhalt ?_))
        refine y_famx (ι := Nat × Nat) [13, 15, 82, 83, 84, 85, 86, 87, 88, 89, 90, 91, 92, 93, 94, 95, 96, 97, 98, 99, 100, 101, 102] [13] (fun y => [(82, .d (.int .i64 y.1)), (13, .own 13 y.2)]) (fun y => [(13, .row 5 1 true ((Im.got (L.take y.1) q).map dByte) y.2)]) (fun y => y.1 ≤ L.length) (fun y => L.length - y.1) (0, 0) (Nat.zero_le _)  fun ⟨y, ver⟩ hy => ?_
        dsimp only [List.cons_append, List.nil_append] at hy ⊢
        rcases Nat.lt_or_ge y L.length with hyl | hyl
        · have hgt := Im.got_take L q y hyl
          have hgb := Nat.le_trans (Im.got_len (L.take y) q) (I.sizeC_take L y)
          obtain ⟨hm1, hw2⟩ := hLp.1 _ (List.getElem_mem hyl)
          have hbl : L[y].b.length ≤ 40000 := Nat.le_trans (Im.b_le (List.getElem_mem hyl)) hLs
          by_cases hk2 : L[y].k = 2
          · obtain ⟨p, hp4, hc⟩ := Im.fwd_shape hm1 hw2 hk2
            rw [hc, Im.fwd_lnk] at hgt
            generalize L[y].b = bs at *
            have hget3 : (L.map dCmd)[y]? = some (.agg [.int .u8 2, .int .i32 (-2147483648 + 4 * (p : Int)), .int .i32 0, .list 1 (bs.map dByte)]) := by rw [List.getElem?_map, List.getElem?_eq_getElem hyl, hc]; rfl
            ((repeat' (first | (refine z_box (d := 2) 2 ?_) | (refine z_alloc (d := 5) 5 ?_) | (refine z_alloc (d := 15) 15 ?_) | (refine z_append0 (d := 101) 101 ?_) | (refine z_alloc (d := 16) 16 ?_) | (refine yyp ?_; (try refine s_bu ?_ ?_ <;> (intro hb; try simp only [decide_eq_true_eq, decide_eq_false_iff_not] at hb))) | (refine yy ?_) | (refine yy2 ?_ ?_ <;> (intro hcmp; try simp only [cmp] at hcmp)) | (refine z_append (fun kv => ?_)) | (refine z_append_suf (fun sx sp kv hsx hsp hsl => ?_)) | (refine z_nil [0, 1, 2, 4, 5, 6, 7, 8, 9, 12, 13, 15, 16, 20, 29, 59, 61, 62, 63, 71, 72, 73, 74, 80, 81, 82, 83, 97, 117] ?_) | (refine tc_seq fun K hK => ?_) | (apply_assumption -exfalso -symm))); all_goals (try refine unhalt ?_))
            · refine ⟨(y + 1, kv), by dsimp only; omega, by dsimp only; omega, ?_⟩
              dsimp only
              rw [hgt, if_pos (by simp; omega), List.map_append]
              exact y_wk
            · refine ⟨(y + 1, ver), by dsimp only; omega, by dsimp only; omega, ?_⟩
              dsimp only
              rw [hgt, if_neg (by simp; omega)]
              exact y_wk
          · have hkk : (L[y].k == 2) = false := by simpa using hk2
            rw [hkk, Bool.false_and, if_neg Bool.false_ne_true] at hgt
            have hget3 : (L.map dCmd)[y]? = some (dCmd L[y]) := by rw [List.getElem?_map, List.getElem?_eq_getElem hyl]; rfl
            ((repeat' (first | (refine z_box (d := 2) 2 ?_) | (refine z_alloc (d := 5) 5 ?_) | (refine z_alloc (d := 15) 15 ?_) | (refine z_append0 (d := 101) 101 ?_) | (refine z_alloc (d := 16) 16 ?_) | (refine yyp ?_; (try refine s_bu ?_ ?_ <;> (intro hb; try simp only [decide_eq_true_eq, decide_eq_false_iff_not] at hb))) | (refine yy ?_) | (refine yy2 ?_ ?_ <;> (intro hcmp; try simp only [cmp] at hcmp)) | (refine z_append (fun kv => ?_)) | (refine z_append_suf (fun sx sp kv hsx hsp hsl => ?_)) | (refine z_nil [0, 1, 2, 4, 5, 6, 7, 8, 9, 12, 13, 15, 16, 20, 29, 59, 61, 62, 63, 71, 72, 73, 74, 80, 81, 82, 83, 97, 117] ?_) | (refine tc_seq fun K hK => ?_) | (apply_assumption -exfalso -symm))); all_goals (try refine unhalt ?_))
            refine ⟨(y + 1, ver), by dsimp only; omega, by dsimp only; omega, ?_⟩
            dsimp only
            rw [hgt]
            exact y_wk
        · have hye : y = L.length := by omega
          subst hye
          rw [List.take_length]
          ((repeat' (first | (refine z_box (d := 2) 2 ?_) | (refine z_alloc (d := 5) 5 ?_) | (refine z_alloc (d := 15) 15 ?_) | (refine z_append0 (d := 101) 101 ?_) | (refine z_alloc (d := 16) 16 ?_) | (refine tr_at 115 ?_; refine y_callE (hc := hw1) ?_) | (refine yyp ?_; (try refine s_bu ?_ ?_ <;> (intro hb; try simp only [decide_eq_true_eq, decide_eq_false_iff_not] at hb))) | (refine yy ?_) | (refine yy2 ?_ ?_ <;> (intro hcmp; try simp only [cmp] at hcmp)) | (refine y_call (hc := (heq1)) ?_; (try refine s_bu ?_ ?_ <;> (intro hb; try simp only [decide_eq_true_eq, decide_eq_false_iff_not] at hb))) | (refine z_append (fun kv => ?_)) | (refine z_append_suf (fun sx sp kv hsx hsp hsl => ?_)) | (refine y_call (hc := (hPk)) ?_) | (refine z_nil [0, 1, 2, 4, 5, 6, 7, 8, 9, 12, 13, 15, 16, 20, 29, 59, 61, 62, 63, 71, 72, 73, 74, 80, 81, 82, 83, 97, 117] ?_) | (refine tc_seq fun K hK => ?_) | (apply_assumption -exfalso -symm))); all_goals (try refine unhalt ?_))
          exact ⟨j + 1, by omega, by omega, y_wk⟩
      · ((repeat' (first | (refine z_box (d := 2) 2 ?_) | (refine z_alloc (d := 5) 5 ?_) | (refine z_alloc (d := 15) 15 ?_) | (refine z_append0 (d := 101) 101 ?_) | (refine z_alloc (d := 16) 16 ?_) | (refine yyp ?_; (try refine s_bu ?_ ?_ <;> (intro hb; try simp only [decide_eq_true_eq, decide_eq_false_iff_not] at hb))) | (refine yy ?_) | (refine yy2 ?_ ?_ <;> (intro hcmp; try simp only [cmp] at hcmp)) | (refine z_append (fun kv => ?_)) | (refine z_append_suf (fun sx sp kv hsx hsp hsl => ?_)) | (refine z_nil [0, 1, 2, 4, 5, 6, 7, 8, 9, 12, 13, 15, 16, 20, 29, 59, 61, 62, 63, 71, 72, 73, 74, 80, 81, 82, 83, 97, 117] ?_) | (refine tc_seq fun K hK => ?_) | (apply_assumption -exfalso -symm))); all_goals (try refine unhalt ?_))
        exact ⟨i + 1, by omega, by omega, y_wk⟩
    · ((repeat' (first | (refine z_box (d := 2) 2 ?_) | (refine z_alloc (d := 5) 5 ?_) | (refine z_alloc (d := 15) 15 ?_) | (refine z_append0 (d := 101) 101 ?_) | (refine z_alloc (d := 16) 16 ?_) | (refine yyp ?_; (try refine s_bu ?_ ?_ <;> (intro hb; try simp only [decide_eq_true_eq, decide_eq_false_iff_not] at hb))) | (refine yy ?_) | (refine yy2 ?_ ?_ <;> (intro hcmp; try simp only [cmp] at hcmp)) | (refine y_call (hc := (awake_fn)) ?_; (try refine s_bu ?_ ?_ <;> (intro hb; try simp only [decide_eq_true_eq, decide_eq_false_iff_not] at hb))) | (refine z_append (fun kv => ?_)) | (refine z_append_suf (fun sx sp kv hsx hsp hsl => ?_)) | (refine z_nil [0, 1, 2, 4, 5, 6, 7, 8, 9, 12, 13, 15, 16, 20, 29, 59, 61, 62, 63, 71, 72, 73, 74, 80, 81, 82, 83, 97, 117] ?_) | (refine tc_seq fun K hK => ?_) | (apply_assumption -exfalso -symm))); all_goals (try refine unhalt ?_))
      (refine tc_ret (y_ret ?_))
      rfl
end Go.Proofs.YtcblefmjacofgaaDoor
