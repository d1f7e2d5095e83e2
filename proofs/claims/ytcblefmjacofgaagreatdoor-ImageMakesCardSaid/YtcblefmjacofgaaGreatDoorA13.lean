/- Parts: F15, F16. -/
import Derived.Test.YtcblefmjacofgaaGreatDoorA7
import Derived.Test.YtcblefmjacofgaaGreatDoorA9
import Derived.Test.YtcblefmjacofgaaGreatDoorA4
import Derived.Test.YtcblefmjacofgaaGreatDoorA5
set_option linter.all false
set_option linter.unusedVariables false
set_option linter.unusedSimpArgs false
namespace Go.Proofs.YtcblefmjacofgaaGreatDoor
open Go.RowKit
def dOut (l : List I.Cmd) : D := .list 4 (l.map dCmd)
def RecvR : Option (List (List I.Cmd)) → V → List (Nat × Ob) → Prop
  | some o, v, H1 => v = .d (.bool true) ∧ H1 = [(950, .row 45 1 false (o.map dOut) 0)]
  | none, v, H1 => v = .d (.bool false) ∧ ∃ o, H1 = [(950, .row 45 1 false o 0)]
theorem known_take (ks : List Nat) (l : List I.Cmd) (i : Nat) (hi : i < l.length) : Im.known ks (l.take (i + 1)) = (Im.known ks (l.take i) && (!(l[i].k == 2) || ks.any fun k => Im.lnk l[i] == (k : Int))) := by
  unfold Im.known
  rw [← get_take _ hi, List.all_append]
  simp
theorem any_in (ks : List Nat) (j : Nat) : (ks.any fun k => ((j : Nat) : Int) == ((k : Nat) : Int)) = decide (j ∈ ks) := by
  induction ks with
  | nil => rfl
  | cons x ks ih =>
    rw [List.any_cons, ih]
    by_cases h : j = x
    · subst h; simp
    · have : (((j : Nat) : Int) == ((x : Nat) : Int)) = false := by simp; omega
      rw [this]
      simp [h]
theorem Im.b_le {l : List I.Cmd} {c : I.Cmd} (h : c ∈ l) : c.b.length ≤ I.sizeC l := by
  induction l with
  | nil => cases h
  | cons x l ih =>
    have e : I.sizeC (x :: l) = 12 + x.b.length + I.sizeC l := by simp [I.sizeC]
    rcases List.mem_cons.1 h with rfl | h
    · omega
    · have := ih h; omega
theorem Im.size_len (l : List I.Cmd) : l.length ≤ I.sizeC l := by
  induction l with
  | nil => simp
  | cons x l ih =>
    have e : I.sizeC (x :: l) = 12 + x.b.length + I.sizeC l := by simp [I.sizeC]
    rw [List.length_cons]; omega
theorem known_all {ks : List Nat} {l : List I.Cmd} (h : Im.known ks l = true) {k : Nat} : Im.known ks (l.take k) = true := by
  unfold Im.known at *
  rw [List.all_eq_true] at *
  exact fun x hx => h x (List.mem_of_mem_take hx)
theorem Im.recv_len {t : To.Topo} : ∀ (f : Nat) (n : Int) (b : List UInt8) (out o : List (List I.Cmd)), Im.recv t f n b out = some o → o.length = out.length
  | 0, _, _, _, _, h => by cases h
  | f + 1, n, b, out, o, h => by
    unfold Im.recv at h
    split at h
    · split at h
      · split at h
        · rename_i l _ _
          have key : ∀ (ks : List Nat) (a o : List (List I.Cmd)), Im.recvs (Im.recv t f) t n l ks a = some o → o.length = a.length := by
            intro ks
            induction ks with
            | nil => intro a o h; unfold Im.recvs at h; cases h; rfl
            | cons k ks ih =>
              intro a o h
              unfold Im.recvs at h
              split at h
              · rename_i o' ho'
                rw [ih _ _ h, Im.recv_len f _ _ _ _ ho']
              · cases h
          rw [key _ _ _ h, List.length_set]
        · cases h
      · cases h
    · cases h
attribute [local irreducible] TR TC
set_option maxRecDepth 100000 in
set_option maxHeartbeats 8000000 in
theorem recv_of (t : To.Topo) (hmay : To.May t) : ∀ (f i : Nat) (hi : i < (To.order t).length), (To.order t).length ≤ i + f → ∀ (b : List UInt8) (out : List (List I.Cmd)), b.length ≤ 1000000000 → (out.length : Int) = t.nodes →
    FnE Tryz.prog glT 26 [.d (dTopo t), .d (.int .i64 (To.order t)[i].node), .d (dBytes b), .own 950 0] [(950, .row 45 1 false (out.map dOut) 0)] (RecvR (Im.recv t f (To.order t)[i].node b out)) := by
  intro f
  induction f with
  | zero => intro i hi h; omega
  | succ f ih =>
    intro i hi hf b out hblen hout
    have hr := (To.order_good hmay.sound).range _ (List.getElem_mem hi)
    unfold To.inR at hr
    obtain ⟨hn0, hn1⟩ := hr
    have hch := fun k hk => Im.child_at (k := k) hmay hi hk
    generalize (To.order t)[i].node = n at hn0 hn1 hch ⊢
    have hC : FnD Tryz.prog glT 46 [.d (dTopo t), .d (.int .i64 n)] (fun v => v = .tup [.d (.list 1 ((To.kids t n).map dInt)), .d (.int .i64 0)]) := by
      have := tchildren_fn glT t n
      unfold To.children at this
      rw [if_pos hmay, if_neg (by omega)] at this
      exact this
    have hP : ∀ k ∈ To.kids t n, ∃ lk, FnD Tryz.prog glT 48 [.d (dTopo t), .d (.agg [.int .i64 n, .int .i64 (k : Nat)])] (fun v => v = .tup [.d (.agg [.int .i64 (Im.child t n k), .int .i64 lk]), .d (.bool true)]) := fun k hk => by
      have := tpeer_fn glT t ⟨n, (k : Nat)⟩
      have hk' := (List.mem_filter.1 hk).2
      unfold To.kid at hk'
      simp only [Bool.and_eq_true] at hk'
      rw [if_pos hmay, hk'.1, decide_eq_true hmay] at this
      exact ⟨_, this⟩
    have hk4 := fun k (hk : k ∈ To.kids t n) => Im.kids_lt hk
    have hkl := Im.kids_len t n
    have hcut := bytes_cutPrefix_fn glT b I.bootB
    unfold Im.recv
    have ih' : ∀ k ∈ To.kids t n, ∀ (b : List UInt8) (out : List (List I.Cmd)), b.length ≤ 1000000000 → (out.length : Int) = t.nodes → FnE Tryz.prog glT 26 [.d (dTopo t), .d (.int .i64 (Im.child t n k)), .d (dBytes b), .own 950 0] [(950, .row 45 1 false (out.map dOut) 0)] (RecvR (Im.recv t f (Im.child t n k) b out)) := fun k hk => by
      obtain ⟨j, hij, hj, e⟩ := hch k hk
      have := ih j hj (by omega)
      rw [e] at this
      exact this
    clear ih
    generalize To.kids t n = ks at hC hP hch hk4 hkl ih' ⊢
    unfold dTopo at hC hP ih' ⊢
    have hbl : I.bootB.length = 41 := by decide
    by_cases hpre : b.take 41 = I.bootB
    · rw [if_pos hpre]
      have hpx : I.bootB <+: b := by rw [List.prefix_iff_eq_take, hbl]; exact hpre.symm
      unfold cutPre at hcut
      rw [if_pos hpx, hbl] at hcut
      have hget := get_fn glT (b.drop 41) (by rw [List.length_drop]; omega)
      cases hg : I.getCs (b.drop 41) with
      | none =>
        rw [hg] at hget
        unfold vGet at hget
        (refine y_entere Tryz.func26 Tryz.ntmps26 Tryz.results26 fun w M E b0 => ?_; simp only [slots, List.map_cons, List.map_nil, List.zipIdx_cons, List.zipIdx_nil, Nat.reduceAdd])
        ((repeat' (first | (refine tr_at 4 ?_; (refine z_box 4 ?_)) | (refine tr_at 55 ?_; (refine z_makeMap 55 ?_)) | (refine tr_at 18 ?_; (refine z_alloc 18 ?_)) | (refine tr_at 81 ?_; refine z_append0 81 ?_) | (refine tr_at 22 ?_; (refine z_alloc 22 ?_)) | (refine yyp ?_; (try refine s_bu ?_ ?_ <;> (intro hb; try simp only [decide_eq_true_eq, decide_eq_false_iff_not] at hb))) | (refine yy ?_) | (refine yy2 ?_ ?_ <;> (intro hcmp; try simp only [cmp] at hcmp)) | (refine at_call 15 ?_; refine y_call (hc := (boot_fn)) ?_) | (refine at_call 44 ?_; refine y_call (hc := (hcut)) ?_) | (refine at_call 45 ?_; refine y_call (hc := (hget)) ?_) | (refine at_lookup ?_; (first | (refine s_lookup_d rfl rfl rfl rfl (by first | exact Comp.int .. | exact Comp.str .. | exact Comp.agg (by (repeat (first | exact EqC.nil | apply EqC.int | apply EqC.bool | apply EqC.str)); fail_if_success intros)) (ltd rfl) rfl rfl (by (assumption)) (by (simp)) (fun ki kz hki hkz hkf => ?_) (fun hmiss => ?_)) | (refine s_lookup rfl rfl rfl rfl rfl (by first | exact Comp.int .. | exact Comp.str .. | exact Comp.agg (by (repeat (first | exact EqC.nil | apply EqC.int | apply EqC.bool | apply EqC.str)); fail_if_success intros)) (ltd rfl) rfl rfl (by (assumption)) (by (simp)) (fun ki kz hki hkz hkf => ?_) (fun hmiss => ?_)))) | (refine at_append ?_; first | (refine z_append (fun kv => ?_)) | (refine z_append_suf (fun sx sp kv hsx hsp hsl => ?_))) | (refine s_update rfl rfl rfl rfl rfl rfl rfl (by first | exact ToD.d _ | exact ToD.nils _ | exact ToD.own rfl) (by first | exact Comp.int .. | exact Comp.str .. | exact Comp.agg (by (repeat (first | exact EqC.nil | apply EqC.int | apply EqC.bool | apply EqC.str)); fail_if_success intros)) rfl rfl (by (assumption)) (fun ki hki hkf => ?_) (fun hmiss => ?_)) | (refine at_nil ?_; refine z_nil [0, 1, 2, 3, 4, 8, 9, 10, 11, 12, 13, 14, 16, 18, 19, 21, 22, 31, 44, 56, 57, 58, 59, 64, 73, 83, 84, 85, 86, 105] ?_) | (refine tc_seq fun K hK => ?_) | (apply_assumption -exfalso -symm))); all_goals (try refine unhalt ?_))
        (refine tc_ret (EndsE.mk (.inl rfl) ⟨_, [(950, .row 45 1 false _ 0)], by (repeat (first | exact ResE.nil | apply ResE.tmp rfl (by first | exact ArgE.own rfl | exact ArgE.nils _ | exact ArgE.same _) | apply ResE.cells rfl rfl (by (repeat (first | exact Cut.done _ | apply Cut.take | apply Cut.skip)); fail_if_success intros) (by (repeat (first | exact ToDs.nil | apply ToDs.cons (ToD.d _) | apply ToDs.cons (ToD.nils _) | apply ToDs.cons (ToD.own rfl))); fail_if_success intros) (by rfl) | apply ResE.cell rfl rfl rfl (by first | exact ArgE.own rfl | exact ArgE.nils _ | exact ArgE.same _))); fail_if_success intros, .cons rfl .nil, by rfl, rfl, _, rfl⟩))
      | some p =>
        obtain ⟨l, more⟩ := p
        obtain ⟨henc, hall⟩ := I.getCs_enc hg
        rw [hg] at hget
        unfold vGet at hget
        cases more with
        | cons x more =>
          have hml : 0 < (x :: more).length := Nat.succ_pos _
          (refine y_entere Tryz.func26 Tryz.ntmps26 Tryz.results26 fun w M E b0 => ?_; simp only [slots, List.map_cons, List.map_nil, List.zipIdx_cons, List.zipIdx_nil, Nat.reduceAdd])
          ((repeat' (first | (refine tr_at 4 ?_; (refine z_box 4 ?_)) | (refine tr_at 55 ?_; (refine z_makeMap 55 ?_)) | (refine tr_at 18 ?_; (refine z_alloc 18 ?_)) | (refine tr_at 81 ?_; refine z_append0 81 ?_) | (refine tr_at 22 ?_; (refine z_alloc 22 ?_)) | (refine yyp ?_; (try refine s_bu ?_ ?_ <;> (intro hb; try simp only [decide_eq_true_eq, decide_eq_false_iff_not] at hb))) | (refine yy ?_) | (refine yy2 ?_ ?_ <;> (intro hcmp; try simp only [cmp] at hcmp)) | (refine at_call 15 ?_; refine y_call (hc := (boot_fn)) ?_) | (refine at_call 44 ?_; refine y_call (hc := (hcut)) ?_) | (refine at_call 45 ?_; refine y_call (hc := (hget)) ?_) | (refine at_lookup ?_; (first | (refine s_lookup_d rfl rfl rfl rfl (by first | exact Comp.int .. | exact Comp.str .. | exact Comp.agg (by (repeat (first | exact EqC.nil | apply EqC.int | apply EqC.bool | apply EqC.str)); fail_if_success intros)) (ltd rfl) rfl rfl (by (assumption)) (by (simp)) (fun ki kz hki hkz hkf => ?_) (fun hmiss => ?_)) | (refine s_lookup rfl rfl rfl rfl rfl (by first | exact Comp.int .. | exact Comp.str .. | exact Comp.agg (by (repeat (first | exact EqC.nil | apply EqC.int | apply EqC.bool | apply EqC.str)); fail_if_success intros)) (ltd rfl) rfl rfl (by (assumption)) (by (simp)) (fun ki kz hki hkz hkf => ?_) (fun hmiss => ?_)))) | (refine at_append ?_; first | (refine z_append (fun kv => ?_)) | (refine z_append_suf (fun sx sp kv hsx hsp hsl => ?_))) | (refine s_update rfl rfl rfl rfl rfl rfl rfl (by first | exact ToD.d _ | exact ToD.nils _ | exact ToD.own rfl) (by first | exact Comp.int .. | exact Comp.str .. | exact Comp.agg (by (repeat (first | exact EqC.nil | apply EqC.int | apply EqC.bool | apply EqC.str)); fail_if_success intros)) rfl rfl (by (assumption)) (fun ki hki hkf => ?_) (fun hmiss => ?_)) | (refine at_nil ?_; refine z_nil [0, 1, 2, 3, 4, 8, 9, 10, 11, 12, 13, 14, 16, 18, 19, 21, 22, 31, 44, 56, 57, 58, 59, 64, 73, 83, 84, 85, 86, 105] ?_) | (refine tc_seq fun K hK => ?_) | (apply_assumption -exfalso -symm))); all_goals (try refine unhalt ?_))
          (refine tc_ret (EndsE.mk (.inl rfl) ⟨_, [(950, .row 45 1 false _ 0)], by (repeat (first | exact ResE.nil | apply ResE.tmp rfl (by first | exact ArgE.own rfl | exact ArgE.nils _ | exact ArgE.same _) | apply ResE.cells rfl rfl (by (repeat (first | exact Cut.done _ | apply Cut.take | apply Cut.skip)); fail_if_success intros) (by (repeat (first | exact ToDs.nil | apply ToDs.cons (ToD.d _) | apply ToDs.cons (ToD.nils _) | apply ToDs.cons (ToD.own rfl))); fail_if_success intros) (by rfl) | apply ResE.cell rfl rfl rfl (by first | exact ArgE.own rfl | exact ArgE.nils _ | exact ArgE.same _))); fail_if_success intros, .cons rfl .nil, by rfl, rfl, _, rfl⟩))
        | nil =>
          have hml : ([] : List UInt8).length = 0 := rfl
          have hsz : I.sizeC l ≤ 1000000000 := by
            have := congrArg List.length henc
            rw [List.append_nil, I.ones_length, List.length_drop] at this
            omega
          have hll := Im.size_len l
          dsimp only
          generalize hres : (if Im.known ks l = true then Im.recvs (Im.recv t f) t n l ks (out.set n.toNat l) else none) = res
          have hcon : ∀ j : Nat, j < 4 → FnD Tryz.prog glT 47 [.d (.list 1 (ks.map dInt)), .d (.int .i64 (j : Nat))] (fun v => v = .d (.bool (decide (j ∈ ks)))) := fun j _ => by
            have := contains_int_fn glT (ks.map fun k => ((k : Nat) : Int)) (j : Nat) (by rw [List.length_map]; omega)
            rw [List.map_map] at this
            have e : decide (((j : Nat) : Int) ∈ ks.map fun k => ((k : Nat) : Int)) = decide (j ∈ ks) := by
              apply decide_eq_decide.2
              constructor
              · intro h
                obtain ⟨k, h1, h2⟩ := List.mem_map.1 h
                have h3 : k = j := by omega
                exact h3 ▸ h1
              · intro h
                exact List.mem_map.2 ⟨j, h, rfl⟩
            rw [e] at this
            exact this
          (refine y_entere Tryz.func26 Tryz.ntmps26 Tryz.results26 fun w M E b0 => ?_; simp only [slots, List.map_cons, List.map_nil, List.zipIdx_cons, List.zipIdx_nil, Nat.reduceAdd])
          ((repeat' (first | (refine tr_at 4 ?_; (refine z_box 4 ?_)) | (refine tr_at 55 ?_; (refine z_makeMap 55 ?_)) | (refine tr_at 18 ?_; (refine z_alloc 18 ?_)) | (refine tr_at 81 ?_; refine z_append0 81 ?_) | (refine tr_at 22 ?_; (refine z_alloc 22 ?_)) | (refine yyp ?_; (try refine s_bu ?_ ?_ <;> (intro hb; try simp only [decide_eq_true_eq, decide_eq_false_iff_not] at hb))) | (refine yy ?_) | (refine yy2 ?_ ?_ <;> (intro hcmp; try simp only [cmp] at hcmp)) | (refine at_call 15 ?_; refine y_call (hc := (boot_fn)) ?_) | (refine at_call 44 ?_; refine y_call (hc := (hcut)) ?_) | (refine at_call 45 ?_; refine y_call (hc := (hget)) ?_) | (refine at_call 46 ?_; refine y_call (hc := (hC)) ?_) | (refine at_lookup ?_; (first | (refine s_lookup_d rfl rfl rfl rfl (by first | exact Comp.int .. | exact Comp.str .. | exact Comp.agg (by (repeat (first | exact EqC.nil | apply EqC.int | apply EqC.bool | apply EqC.str)); fail_if_success intros)) (ltd rfl) rfl rfl (by (assumption)) (by (simp)) (fun ki kz hki hkz hkf => ?_) (fun hmiss => ?_)) | (refine s_lookup rfl rfl rfl rfl rfl (by first | exact Comp.int .. | exact Comp.str .. | exact Comp.agg (by (repeat (first | exact EqC.nil | apply EqC.int | apply EqC.bool | apply EqC.str)); fail_if_success intros)) (ltd rfl) rfl rfl (by (assumption)) (by (simp)) (fun ki kz hki hkz hkf => ?_) (fun hmiss => ?_)))) | (refine at_append ?_; first | (refine z_append (fun kv => ?_)) | (refine z_append_suf (fun sx sp kv hsx hsp hsl => ?_))) | (refine s_update rfl rfl rfl rfl rfl rfl rfl (by first | exact ToD.d _ | exact ToD.nils _ | exact ToD.own rfl) (by first | exact Comp.int .. | exact Comp.str .. | exact Comp.agg (by (repeat (first | exact EqC.nil | apply EqC.int | apply EqC.bool | apply EqC.str)); fail_if_success intros)) rfl rfl (by (assumption)) (fun ki hki hkf => ?_) (fun hmiss => ?_)) | (refine at_nil ?_; refine z_nil [0, 1, 2, 3, 4, 8, 9, 10, 11, 12, 13, 14, 16, 18, 19, 21, 22, 31, 44, 56, 57, 58, 59, 64, 73, 83, 84, 85, 86, 105] ?_) | (refine tc_seq fun K hK => ?_) | (apply_assumption -exfalso -symm))); all_goals (try refine unhalt ?_))
          refine tc_imap 55 4 1 rfl ?_
          refine tc_nilmap 55 560 0 (e := 5) (sz := 1) rfl rfl rfl ?_
          refine tc_nilmap 55 561 1 (e := 5) (sz := 1) rfl rfl rfl ?_
          refine tc_nilmap 55 562 2 (e := 5) (sz := 1) rfl rfl rfl ?_
          refine tc_nilmap 55 563 3 (e := 5) (sz := 1) rfl rfl rfl ?_
          refine y_famx (ι := Nat × Nat × Nat × Nat × Nat) [8, 18, 19, 58, 59, 60, 61, 62, 63, 64, 65, 66, 67, 68, 69, 70, 71, 72, 73, 74, 75, 76, 77, 78, 79, 80, 81, 82] [55, 560, 561, 562, 563] (fun x => [(58, .d (.int .i64 x.1))]) (fun x => [(55, .imap [.own 560 x.2.1, .own 561 x.2.2.1, .own 562 x.2.2.2.1, .own 563 x.2.2.2.2]), (560, .row 5 1 true ((Im.got (l.take x.1) 0).map dByte) x.2.1), (561, .row 5 1 true ((Im.got (l.take x.1) 1).map dByte) x.2.2.1), (562, .row 5 1 true ((Im.got (l.take x.1) 2).map dByte) x.2.2.2.1), (563, .row 5 1 true ((Im.got (l.take x.1) 3).map dByte) x.2.2.2.2)])
            (fun x => x.1 ≤ l.length ∧ Im.known ks (l.take x.1) = true) (fun x => l.length - x.1) (0, 0, 0, 0, 0) ⟨by simp, rfl⟩  fun ⟨k, v0, v1, v2, v3⟩ ⟨hkl1, hkn⟩ => ?_
          dsimp only [List.cons_append, List.nil_append] at hkl1 hkn ⊢
          rcases Nat.lt_or_ge k l.length with hkl2 | hkl2
          · obtain ⟨hm1, hw1⟩ := hall _ (List.getElem_mem hkl2)
            have hgl := fun i => Im.got_take l i k hkl2
            have hgb := fun i => Nat.le_trans (Im.got_len (l.take k) i) (I.sizeC_take l k)
            have hgb0 := hgb 0
            have hgb1 := hgb 1
            have hgb2 := hgb 2
            have hgb3 := hgb 3
            have hbsl : l[k].b.length ≤ 1000000000 := Nat.le_trans (Im.b_le (List.getElem_mem hkl2)) hsz
            by_cases hk2 : l[k].k = 2
            · obtain ⟨j, hj4, hc⟩ := Im.fwd_shape hm1 hw1 hk2
              have hg0 := hgl 0
              have hg1 := hgl 1
              have hg2 := hgl 2
              have hg3 := hgl 3
              rw [hc, Im.fwd_lnk] at hg0 hg1 hg2 hg3
              generalize l[k].b = bs at *
              rcases (by omega : j = 0 ∨ j = 1 ∨ j = 2 ∨ j = 3) with rfl | rfl | rfl | rfl <;> simp at hg0 hg1 hg2 hg3 <;> simp only [← List.map_append] at *
              · as_aux_lemma =>
                  have hget1 : (l.map dCmd)[k]? = some (.agg [.int .u8 2, .int .i32 (-2147483648), .int .i32 0, .list 1 (bs.map dByte)]) := by rw [List.getElem?_map, List.getElem?_eq_getElem hkl2, hc]; rfl
                  ((repeat' (first | (refine tr_at 4 ?_; (refine z_box 4 ?_)) | (refine tr_at 55 ?_; (refine z_makeMap 55 ?_)) | (refine tr_at 18 ?_; (refine z_alloc 18 ?_)) | (refine tr_at 78 ?_; refine z_ilookup 0 ?_) | (refine tr_at 81 ?_; refine z_append0 81 ?_) | (refine tr_ix 8 ?_; refine z_iupdate 0 ?_) | (refine tr_at 22 ?_; (refine z_alloc 22 ?_)) | (refine yyp ?_; (try refine s_bu ?_ ?_ <;> (intro hb; try simp only [decide_eq_true_eq, decide_eq_false_iff_not] at hb))) | (refine yy ?_) | (refine yy2 ?_ ?_ <;> (intro hcmp; try simp only [cmp] at hcmp)) | (refine at_call 47 ?_; refine y_call (hc := (hcon 0 (by omega))) ?_; (try refine s_bu ?_ ?_ <;> (intro hb; try simp only [decide_eq_true_eq, decide_eq_false_iff_not] at hb))) | (refine at_append ?_; first | (refine z_append (fun kv => ?_)) | (refine z_append_suf (fun sx sp kv hsx hsp hsl => ?_))) | (refine at_lookup ?_; (first | (refine s_lookup_d rfl rfl rfl rfl (by first | exact Comp.int .. | exact Comp.str .. | exact Comp.agg (by (repeat (first | exact EqC.nil | apply EqC.int | apply EqC.bool | apply EqC.str)); fail_if_success intros)) (ltd rfl) rfl rfl (by (assumption)) (by (simp)) (fun ki kz hki hkz hkf => ?_) (fun hmiss => ?_)) | (refine s_lookup rfl rfl rfl rfl rfl (by first | exact Comp.int .. | exact Comp.str .. | exact Comp.agg (by (repeat (first | exact EqC.nil | apply EqC.int | apply EqC.bool | apply EqC.str)); fail_if_success intros)) (ltd rfl) rfl rfl (by (assumption)) (by (simp)) (fun ki kz hki hkz hkf => ?_) (fun hmiss => ?_)))) | (refine at_nil ?_; refine z_nil [0, 1, 2, 3, 4, 8, 9, 10, 11, 12, 13, 14, 16, 18, 19, 21, 22, 31, 44, 56, 57, 58, 59, 64, 73, 83, 84, 85, 86, 105] ?_) | (refine tc_seq fun K hK => ?_) | (apply_assumption -exfalso -symm))); all_goals (try refine unhalt ?_))
                  · refine ⟨(k + 1, kv, v1, v2, v3), ⟨by dsimp only; omega, ?_⟩, by dsimp only; omega, ?_⟩
                    · dsimp only
                      rw [known_take _ _ _ hkl2, hkn, hc, Im.fwd_lnk, any_in]
                      simp [hb]
                    · dsimp only
                      rw [hg0, hg1, hg2, hg3]
                      simp only [List.map_append]
                      exact y_wk
                  · obtain rfl : res = none := by
                      rw [← hres, if_neg (fun h => by
                        have h2 := known_take ks l k hkl2
                        rw [hc, Im.fwd_lnk, any_in, known_all h, known_all h] at h2
                        simp [hb] at h2)]
                    (refine tc_ret (EndsE.mk (.inl rfl) ⟨_, [(950, .row 45 1 false _ 0)], by (repeat (first | exact ResE.nil | apply ResE.tmp rfl (by first | exact ArgE.own rfl | exact ArgE.nils _ | exact ArgE.same _) | apply ResE.cells rfl rfl (by (repeat (first | exact Cut.done _ | apply Cut.take | apply Cut.skip)); fail_if_success intros) (by (repeat (first | exact ToDs.nil | apply ToDs.cons (ToD.d _) | apply ToDs.cons (ToD.nils _) | apply ToDs.cons (ToD.own rfl))); fail_if_success intros) (by rfl) | apply ResE.cell rfl rfl rfl (by first | exact ArgE.own rfl | exact ArgE.nils _ | exact ArgE.same _))); fail_if_success intros, .cons rfl .nil, by rfl, rfl, _, rfl⟩))
              · as_aux_lemma =>
                  have hget1 : (l.map dCmd)[k]? = some (.agg [.int .u8 2, .int .i32 (-2147483644), .int .i32 0, .list 1 (bs.map dByte)]) := by rw [List.getElem?_map, List.getElem?_eq_getElem hkl2, hc]; rfl
                  ((repeat' (first | (refine tr_at 4 ?_; (refine z_box 4 ?_)) | (refine tr_at 55 ?_; (refine z_makeMap 55 ?_)) | (refine tr_at 18 ?_; (refine z_alloc 18 ?_)) | (refine tr_at 78 ?_; refine z_ilookup 1 ?_) | (refine tr_at 81 ?_; refine z_append0 81 ?_) | (refine tr_ix 8 ?_; refine z_iupdate 1 ?_) | (refine tr_at 22 ?_; (refine z_alloc 22 ?_)) | (refine yyp ?_; (try refine s_bu ?_ ?_ <;> (intro hb; try simp only [decide_eq_true_eq, decide_eq_false_iff_not] at hb))) | (refine yy ?_) | (refine yy2 ?_ ?_ <;> (intro hcmp; try simp only [cmp] at hcmp)) | (refine at_call 47 ?_; refine y_call (hc := (hcon 1 (by omega))) ?_; (try refine s_bu ?_ ?_ <;> (intro hb; try simp only [decide_eq_true_eq, decide_eq_false_iff_not] at hb))) | (refine at_append ?_; first | (refine z_append (fun kv => ?_)) | (refine z_append_suf (fun sx sp kv hsx hsp hsl => ?_))) | (refine at_lookup ?_; (first | (refine s_lookup_d rfl rfl rfl rfl (by first | exact Comp.int .. | exact Comp.str .. | exact Comp.agg (by (repeat (first | exact EqC.nil | apply EqC.int | apply EqC.bool | apply EqC.str)); fail_if_success intros)) (ltd rfl) rfl rfl (by (assumption)) (by (simp)) (fun ki kz hki hkz hkf => ?_) (fun hmiss => ?_)) | (refine s_lookup rfl rfl rfl rfl rfl (by first | exact Comp.int .. | exact Comp.str .. | exact Comp.agg (by (repeat (first | exact EqC.nil | apply EqC.int | apply EqC.bool | apply EqC.str)); fail_if_success intros)) (ltd rfl) rfl rfl (by (assumption)) (by (simp)) (fun ki kz hki hkz hkf => ?_) (fun hmiss => ?_)))) | (refine at_nil ?_; refine z_nil [0, 1, 2, 3, 4, 8, 9, 10, 11, 12, 13, 14, 16, 18, 19, 21, 22, 31, 44, 56, 57, 58, 59, 64, 73, 83, 84, 85, 86, 105] ?_) | (refine tc_seq fun K hK => ?_) | (apply_assumption -exfalso -symm))); all_goals (try refine unhalt ?_))
                  · refine ⟨(k + 1, v0, kv, v2, v3), ⟨by dsimp only; omega, ?_⟩, by dsimp only; omega, ?_⟩
                    · dsimp only
                      rw [known_take _ _ _ hkl2, hkn, hc, Im.fwd_lnk, any_in]
                      simp [hb]
                    · dsimp only
                      rw [hg0, hg1, hg2, hg3]
                      simp only [List.map_append]
                      exact y_wk
                  · obtain rfl : res = none := by
                      rw [← hres, if_neg (fun h => by
                        have h2 := known_take ks l k hkl2
                        rw [hc, Im.fwd_lnk, any_in, known_all h, known_all h] at h2
                        simp [hb] at h2)]
                    (refine tc_ret (EndsE.mk (.inl rfl) ⟨_, [(950, .row 45 1 false _ 0)], by (repeat (first | exact ResE.nil | apply ResE.tmp rfl (by first | exact ArgE.own rfl | exact ArgE.nils _ | exact ArgE.same _) | apply ResE.cells rfl rfl (by (repeat (first | exact Cut.done _ | apply Cut.take | apply Cut.skip)); fail_if_success intros) (by (repeat (first | exact ToDs.nil | apply ToDs.cons (ToD.d _) | apply ToDs.cons (ToD.nils _) | apply ToDs.cons (ToD.own rfl))); fail_if_success intros) (by rfl) | apply ResE.cell rfl rfl rfl (by first | exact ArgE.own rfl | exact ArgE.nils _ | exact ArgE.same _))); fail_if_success intros, .cons rfl .nil, by rfl, rfl, _, rfl⟩))
              · as_aux_lemma =>
                  have hget1 : (l.map dCmd)[k]? = some (.agg [.int .u8 2, .int .i32 (-2147483640), .int .i32 0, .list 1 (bs.map dByte)]) := by rw [List.getElem?_map, List.getElem?_eq_getElem hkl2, hc]; rfl
                  ((repeat' (first | (refine tr_at 4 ?_; (refine z_box 4 ?_)) | (refine tr_at 55 ?_; (refine z_makeMap 55 ?_)) | (refine tr_at 18 ?_; (refine z_alloc 18 ?_)) | (refine tr_at 78 ?_; refine z_ilookup 2 ?_) | (refine tr_at 81 ?_; refine z_append0 81 ?_) | (refine tr_ix 8 ?_; refine z_iupdate 2 ?_) | (refine tr_at 22 ?_; (refine z_alloc 22 ?_)) | (refine yyp ?_; (try refine s_bu ?_ ?_ <;> (intro hb; try simp only [decide_eq_true_eq, decide_eq_false_iff_not] at hb))) | (refine yy ?_) | (refine yy2 ?_ ?_ <;> (intro hcmp; try simp only [cmp] at hcmp)) | (refine at_call 47 ?_; refine y_call (hc := (hcon 2 (by omega))) ?_; (try refine s_bu ?_ ?_ <;> (intro hb; try simp only [decide_eq_true_eq, decide_eq_false_iff_not] at hb))) | (refine at_append ?_; first | (refine z_append (fun kv => ?_)) | (refine z_append_suf (fun sx sp kv hsx hsp hsl => ?_))) | (refine at_lookup ?_; (first | (refine s_lookup_d rfl rfl rfl rfl (by first | exact Comp.int .. | exact Comp.str .. | exact Comp.agg (by (repeat (first | exact EqC.nil | apply EqC.int | apply EqC.bool | apply EqC.str)); fail_if_success intros)) (ltd rfl) rfl rfl (by (assumption)) (by (simp)) (fun ki kz hki hkz hkf => ?_) (fun hmiss => ?_)) | (refine s_lookup rfl rfl rfl rfl rfl (by first | exact Comp.int .. | exact Comp.str .. | exact Comp.agg (by (repeat (first | exact EqC.nil | apply EqC.int | apply EqC.bool | apply EqC.str)); fail_if_success intros)) (ltd rfl) rfl rfl (by (assumption)) (by (simp)) (fun ki kz hki hkz hkf => ?_) (fun hmiss => ?_)))) | (refine at_nil ?_; refine z_nil [0, 1, 2, 3, 4, 8, 9, 10, 11, 12, 13, 14, 16, 18, 19, 21, 22, 31, 44, 56, 57, 58, 59, 64, 73, 83, 84, 85, 86, 105] ?_) | (refine tc_seq fun K hK => ?_) | (apply_assumption -exfalso -symm))); all_goals (try refine unhalt ?_))
                  · refine ⟨(k + 1, v0, v1, kv, v3), ⟨by dsimp only; omega, ?_⟩, by dsimp only; omega, ?_⟩
                    · dsimp only
                      rw [known_take _ _ _ hkl2, hkn, hc, Im.fwd_lnk, any_in]
                      simp [hb]
                    · dsimp only
                      rw [hg0, hg1, hg2, hg3]
                      simp only [List.map_append]
                      exact y_wk
                  · obtain rfl : res = none := by
                      rw [← hres, if_neg (fun h => by
                        have h2 := known_take ks l k hkl2
                        rw [hc, Im.fwd_lnk, any_in, known_all h, known_all h] at h2
                        simp [hb] at h2)]
                    (refine tc_ret (EndsE.mk (.inl rfl) ⟨_, [(950, .row 45 1 false _ 0)], by (repeat (first | exact ResE.nil | apply ResE.tmp rfl (by first | exact ArgE.own rfl | exact ArgE.nils _ | exact ArgE.same _) | apply ResE.cells rfl rfl (by (repeat (first | exact Cut.done _ | apply Cut.take | apply Cut.skip)); fail_if_success intros) (by (repeat (first | exact ToDs.nil | apply ToDs.cons (ToD.d _) | apply ToDs.cons (ToD.nils _) | apply ToDs.cons (ToD.own rfl))); fail_if_success intros) (by rfl) | apply ResE.cell rfl rfl rfl (by first | exact ArgE.own rfl | exact ArgE.nils _ | exact ArgE.same _))); fail_if_success intros, .cons rfl .nil, by rfl, rfl, _, rfl⟩))
              · as_aux_lemma =>
                  have hget1 : (l.map dCmd)[k]? = some (.agg [.int .u8 2, .int .i32 (-2147483636), .int .i32 0, .list 1 (bs.map dByte)]) := by rw [List.getElem?_map, List.getElem?_eq_getElem hkl2, hc]; rfl
                  ((repeat' (first | (refine tr_at 4 ?_; (refine z_box 4 ?_)) | (refine tr_at 55 ?_; (refine z_makeMap 55 ?_)) | (refine tr_at 18 ?_; (refine z_alloc 18 ?_)) | (refine tr_at 78 ?_; refine z_ilookup 3 ?_) | (refine tr_at 81 ?_; refine z_append0 81 ?_) | (refine tr_ix 8 ?_; refine z_iupdate 3 ?_) | (refine tr_at 22 ?_; (refine z_alloc 22 ?_)) | (refine yyp ?_; (try refine s_bu ?_ ?_ <;> (intro hb; try simp only [decide_eq_true_eq, decide_eq_false_iff_not] at hb))) | (refine yy ?_) | (refine yy2 ?_ ?_ <;> (intro hcmp; try simp only [cmp] at hcmp)) | (refine at_call 47 ?_; refine y_call (hc := (hcon 3 (by omega))) ?_; (try refine s_bu ?_ ?_ <;> (intro hb; try simp only [decide_eq_true_eq, decide_eq_false_iff_not] at hb))) | (refine at_append ?_; first | (refine z_append (fun kv => ?_)) | (refine z_append_suf (fun sx sp kv hsx hsp hsl => ?_))) | (refine at_lookup ?_; (first | (refine s_lookup_d rfl rfl rfl rfl (by first | exact Comp.int .. | exact Comp.str .. | exact Comp.agg (by (repeat (first | exact EqC.nil | apply EqC.int | apply EqC.bool | apply EqC.str)); fail_if_success intros)) (ltd rfl) rfl rfl (by (assumption)) (by (simp)) (fun ki kz hki hkz hkf => ?_) (fun hmiss => ?_)) | (refine s_lookup rfl rfl rfl rfl rfl (by first | exact Comp.int .. | exact Comp.str .. | exact Comp.agg (by (repeat (first | exact EqC.nil | apply EqC.int | apply EqC.bool | apply EqC.str)); fail_if_success intros)) (ltd rfl) rfl rfl (by (assumption)) (by (simp)) (fun ki kz hki hkz hkf => ?_) (fun hmiss => ?_)))) | (refine at_nil ?_; refine z_nil [0, 1, 2, 3, 4, 8, 9, 10, 11, 12, 13, 14, 16, 18, 19, 21, 22, 31, 44, 56, 57, 58, 59, 64, 73, 83, 84, 85, 86, 105] ?_) | (refine tc_seq fun K hK => ?_) | (apply_assumption -exfalso -symm))); all_goals (try refine unhalt ?_))
                  · refine ⟨(k + 1, v0, v1, v2, kv), ⟨by dsimp only; omega, ?_⟩, by dsimp only; omega, ?_⟩
                    · dsimp only
                      rw [known_take _ _ _ hkl2, hkn, hc, Im.fwd_lnk, any_in]
                      simp [hb]
                    · dsimp only
                      rw [hg0, hg1, hg2, hg3]
                      simp only [List.map_append]
                      exact y_wk
                  · obtain rfl : res = none := by
                      rw [← hres, if_neg (fun h => by
                        have h2 := known_take ks l k hkl2
                        rw [hc, Im.fwd_lnk, any_in, known_all h, known_all h] at h2
                        simp [hb] at h2)]
                    (refine tc_ret (EndsE.mk (.inl rfl) ⟨_, [(950, .row 45 1 false _ 0)], by (repeat (first | exact ResE.nil | apply ResE.tmp rfl (by first | exact ArgE.own rfl | exact ArgE.nils _ | exact ArgE.same _) | apply ResE.cells rfl rfl (by (repeat (first | exact Cut.done _ | apply Cut.take | apply Cut.skip)); fail_if_success intros) (by (repeat (first | exact ToDs.nil | apply ToDs.cons (ToD.d _) | apply ToDs.cons (ToD.nils _) | apply ToDs.cons (ToD.own rfl))); fail_if_success intros) (by rfl) | apply ResE.cell rfl rfl rfl (by first | exact ArgE.own rfl | exact ArgE.nils _ | exact ArgE.same _))); fail_if_success intros, .cons rfl .nil, by rfl, rfl, _, rfl⟩))
            · have hg := fun i => Im.got_take l i k hkl2
              have hkk : (l[k].k == 2) = false := by simpa using hk2
              simp only [hkk, Bool.false_and, if_neg Bool.false_ne_true] at hg
              ((repeat' (first | (refine tr_at 4 ?_; (refine z_box 4 ?_)) | (refine tr_at 55 ?_; (refine z_makeMap 55 ?_)) | (refine tr_at 18 ?_; (refine z_alloc 18 ?_)) | (refine tr_at 81 ?_; refine z_append0 81 ?_) | (refine tr_at 22 ?_; (refine z_alloc 22 ?_)) | (refine yyp ?_; (try refine s_bu ?_ ?_ <;> (intro hb; try simp only [decide_eq_true_eq, decide_eq_false_iff_not] at hb))) | (refine yy ?_) | (refine yy2 ?_ ?_ <;> (intro hcmp; try simp only [cmp] at hcmp)) | (refine at_lookup ?_; (first | (refine s_lookup_d rfl rfl rfl rfl (by first | exact Comp.int .. | exact Comp.str .. | exact Comp.agg (by (repeat (first | exact EqC.nil | apply EqC.int | apply EqC.bool | apply EqC.str)); fail_if_success intros)) (ltd rfl) rfl rfl (by (assumption)) (by (simp)) (fun ki kz hki hkz hkf => ?_) (fun hmiss => ?_)) | (refine s_lookup rfl rfl rfl rfl rfl (by first | exact Comp.int .. | exact Comp.str .. | exact Comp.agg (by (repeat (first | exact EqC.nil | apply EqC.int | apply EqC.bool | apply EqC.str)); fail_if_success intros)) (ltd rfl) rfl rfl (by (assumption)) (by (simp)) (fun ki kz hki hkz hkf => ?_) (fun hmiss => ?_)))) | (refine at_append ?_; first | (refine z_append (fun kv => ?_)) | (refine z_append_suf (fun sx sp kv hsx hsp hsl => ?_))) | (refine s_update rfl rfl rfl rfl rfl rfl rfl (by first | exact ToD.d _ | exact ToD.nils _ | exact ToD.own rfl) (by first | exact Comp.int .. | exact Comp.str .. | exact Comp.agg (by (repeat (first | exact EqC.nil | apply EqC.int | apply EqC.bool | apply EqC.str)); fail_if_success intros)) rfl rfl (by (assumption)) (fun ki hki hkf => ?_) (fun hmiss => ?_)) | (refine at_nil ?_; refine z_nil [0, 1, 2, 3, 4, 8, 9, 10, 11, 12, 13, 14, 16, 18, 19, 21, 22, 31, 44, 56, 57, 58, 59, 64, 73, 83, 84, 85, 86, 105] ?_) | (refine tc_seq fun K hK => ?_) | (apply_assumption -exfalso -symm))); all_goals (try refine unhalt ?_))
              refine ⟨(k + 1, v0, v1, v2, v3), ⟨by dsimp only; omega, ?_⟩, by dsimp only; omega, ?_⟩
              · dsimp only
                rw [known_take _ _ _ hkl2, hkn, hkk]
                rfl
              · dsimp only
                rw [hg 0, hg 1, hg 2, hg 3]
                exact y_wk
          · have hkl3 : k = l.length := by omega
            subst hkl3
            rw [List.take_length] at hkn ⊢
            ((repeat' (first | (refine tr_at 4 ?_; (refine z_box 4 ?_)) | (refine tr_at 55 ?_; (refine z_makeMap 55 ?_)) | (refine tr_at 18 ?_; (refine z_alloc 18 ?_)) | (refine tr_at 81 ?_; refine z_append0 81 ?_) | (refine tr_at 22 ?_; (refine z_alloc 22 ?_)) | (refine yyp ?_; (try refine s_bu ?_ ?_ <;> (intro hb; try simp only [decide_eq_true_eq, decide_eq_false_iff_not] at hb))) | (refine yy ?_) | (refine yy2 ?_ ?_ <;> (intro hcmp; try simp only [cmp] at hcmp)) | (refine at_lookup ?_; (first | (refine s_lookup_d rfl rfl rfl rfl (by first | exact Comp.int .. | exact Comp.str .. | exact Comp.agg (by (repeat (first | exact EqC.nil | apply EqC.int | apply EqC.bool | apply EqC.str)); fail_if_success intros)) (ltd rfl) rfl rfl (by (assumption)) (by (simp)) (fun ki kz hki hkz hkf => ?_) (fun hmiss => ?_)) | (refine s_lookup rfl rfl rfl rfl rfl (by first | exact Comp.int .. | exact Comp.str .. | exact Comp.agg (by (repeat (first | exact EqC.nil | apply EqC.int | apply EqC.bool | apply EqC.str)); fail_if_success intros)) (ltd rfl) rfl rfl (by (assumption)) (by (simp)) (fun ki kz hki hkz hkf => ?_) (fun hmiss => ?_)))) | (refine at_append ?_; first | (refine z_append (fun kv => ?_)) | (refine z_append_suf (fun sx sp kv hsx hsp hsl => ?_))) | (refine s_update rfl rfl rfl rfl rfl rfl rfl (by first | exact ToD.d _ | exact ToD.nils _ | exact ToD.own rfl) (by first | exact Comp.int .. | exact Comp.str .. | exact Comp.agg (by (repeat (first | exact EqC.nil | apply EqC.int | apply EqC.bool | apply EqC.str)); fail_if_success intros)) rfl rfl (by (assumption)) (fun ki hki hkf => ?_) (fun hmiss => ?_)) | (refine at_nil ?_; refine z_nil [0, 1, 2, 3, 4, 8, 9, 10, 11, 12, 13, 14, 16, 18, 19, 21, 22, 31, 44, 56, 57, 58, 59, 64, 73, 83, 84, 85, 86, 105] ?_) | (refine tc_seq fun K hK => ?_) | (apply_assumption -exfalso -symm))); all_goals (try refine unhalt ?_))
            refine y_famx (ι := Nat × List (List I.Cmd)) [8, 21, 22, 23, 85, 86, 87, 88, 89, 90, 91, 92, 93, 94, 95, 96, 97, 98, 99, 100, 101, 102, 103, 104, 105, 106] [950] (fun x => [(85, .d (.int .i64 x.1))]) (fun x => [(950, .row 45 1 false (x.2.map dOut) 0)])
              (fun x => x.1 ≤ ks.length ∧ (x.2.length : Int) = t.nodes ∧ Im.recvs (Im.recv t f) t n l ks (out.set n.toNat l) = Im.recvs (Im.recv t f) t n l (ks.drop x.1) x.2) (fun x => ks.length - x.1) (0, out.set n.toNat l) (h0 := ?_) ⟨by simp, by simpa using hout, rfl⟩ fun ⟨j, o1⟩ ⟨hj, ho1, hrr⟩ => ?_
            rotate_left
            · dsimp only [List.cons_append, List.nil_append]
              rw [show (out.set n.toNat l).map dOut = (out.map dOut).set n.toNat (D.list 4 (l.map dCmd)) by rw [List.map_set]; rfl]
              exact y_wk
            dsimp only [List.cons_append, List.nil_append] at hj ho1 hrr ⊢
            rcases Nat.lt_or_ge j ks.length with hjl | hjl
            · have hkm := List.getElem_mem hjl
              have hq4 := hk4 _ hkm
              obtain ⟨lk, hPk⟩ := hP _ hkm
              have hE := ih' _ hkm (Im.got l ks[j]) o1 (Nat.le_trans (Im.got_len l _) hsz) ho1
              obtain ⟨q, hq⟩ : ∃ q, ks[j] = q := ⟨_, rfl⟩
              rw [hq] at hPk hE hq4
              rcases (by omega : q = 0 ∨ q = 1 ∨ q = 2 ∨ q = 3) with rfl | rfl | rfl | rfl
              · as_aux_lemma =>
                  have hgj : (ks.map dInt)[j]? = some (.int .i64 0) := by rw [List.getElem?_map, List.getElem?_eq_getElem hjl, hq]; rfl
                  cases hrec : Im.recv t f (Im.child t n 0) (Im.got l 0) o1 with
                  | none =>
                    rw [hrec] at hE
                    ((repeat' (first | (refine tr_at 4 ?_; (refine z_box 4 ?_)) | (refine tr_at 55 ?_; (refine z_makeMap 55 ?_)) | (refine tr_at 18 ?_; (refine z_alloc 18 ?_)) | (refine tr_at 81 ?_; refine z_append0 81 ?_) | (refine tr_at 22 ?_; (refine z_alloc 22 ?_)) | (refine tr_at 102 ?_; refine z_ilookup 0 ?_) | (refine tr_at 104 ?_; refine z_callE (hc := hE) ?_; rintro _ _ ⟨rfl, o', rfl⟩; refine ⟨rfl, ?_⟩) | (refine yyp ?_; (try refine s_bu ?_ ?_ <;> (intro hb; try simp only [decide_eq_true_eq, decide_eq_false_iff_not] at hb))) | (refine yy ?_) | (refine yy2 ?_ ?_ <;> (intro hcmp; try simp only [cmp] at hcmp)) | (refine at_lookup ?_; (first | (refine s_lookup_d rfl rfl rfl rfl (by first | exact Comp.int .. | exact Comp.str .. | exact Comp.agg (by (repeat (first | exact EqC.nil | apply EqC.int | apply EqC.bool | apply EqC.str)); fail_if_success intros)) (ltd rfl) rfl rfl (by (assumption)) (by (simp)) (fun ki kz hki hkz hkf => ?_) (fun hmiss => ?_)) | (refine s_lookup rfl rfl rfl rfl rfl (by first | exact Comp.int .. | exact Comp.str .. | exact Comp.agg (by (repeat (first | exact EqC.nil | apply EqC.int | apply EqC.bool | apply EqC.str)); fail_if_success intros)) (ltd rfl) rfl rfl (by (assumption)) (by (simp)) (fun ki kz hki hkz hkf => ?_) (fun hmiss => ?_)))) | (refine at_append ?_; first | (refine z_append (fun kv => ?_)) | (refine z_append_suf (fun sx sp kv hsx hsp hsl => ?_))) | (refine s_update rfl rfl rfl rfl rfl rfl rfl (by first | exact ToD.d _ | exact ToD.nils _ | exact ToD.own rfl) (by first | exact Comp.int .. | exact Comp.str .. | exact Comp.agg (by (repeat (first | exact EqC.nil | apply EqC.int | apply EqC.bool | apply EqC.str)); fail_if_success intros)) rfl rfl (by (assumption)) (fun ki hki hkf => ?_) (fun hmiss => ?_)) | (refine at_call 48 ?_; refine y_call (hc := (hPk)) ?_) | (refine at_nil ?_; refine z_nil [0, 1, 2, 3, 4, 8, 9, 10, 11, 12, 13, 14, 16, 18, 19, 21, 22, 31, 44, 56, 57, 58, 59, 64, 73, 83, 84, 85, 86, 105] ?_) | (refine tc_seq fun K hK => ?_) | (apply_assumption -exfalso -symm))); all_goals (try refine unhalt ?_))
                    obtain rfl : res = none := by rw [← hres, if_pos hkn, hrr, List.drop_eq_getElem_cons hjl, hq]; unfold Im.recvs; rw [hrec]
                    (refine tc_ret (EndsE.mk (.inl rfl) ⟨_, [(950, .row 45 1 false _ 0)], by (repeat (first | exact ResE.nil | apply ResE.tmp rfl (by first | exact ArgE.own rfl | exact ArgE.nils _ | exact ArgE.same _) | apply ResE.cells rfl rfl (by (repeat (first | exact Cut.done _ | apply Cut.take | apply Cut.skip)); fail_if_success intros) (by (repeat (first | exact ToDs.nil | apply ToDs.cons (ToD.d _) | apply ToDs.cons (ToD.nils _) | apply ToDs.cons (ToD.own rfl))); fail_if_success intros) (by rfl) | apply ResE.cell rfl rfl rfl (by first | exact ArgE.own rfl | exact ArgE.nils _ | exact ArgE.same _))); fail_if_success intros, .cons rfl .nil, by rfl, rfl, _, rfl⟩))
                  | some o2 =>
                    rw [hrec] at hE
                    ((repeat' (first | (refine tr_at 4 ?_; (refine z_box 4 ?_)) | (refine tr_at 55 ?_; (refine z_makeMap 55 ?_)) | (refine tr_at 18 ?_; (refine z_alloc 18 ?_)) | (refine tr_at 81 ?_; refine z_append0 81 ?_) | (refine tr_at 22 ?_; (refine z_alloc 22 ?_)) | (refine tr_at 102 ?_; refine z_ilookup 0 ?_) | (refine tr_at 104 ?_; refine y_callE (hc := hE) ?_; (try refine s_bu ?_ ?_ <;> (intro hb; try simp only [decide_eq_true_eq, decide_eq_false_iff_not] at hb))) | (refine yyp ?_; (try refine s_bu ?_ ?_ <;> (intro hb; try simp only [decide_eq_true_eq, decide_eq_false_iff_not] at hb))) | (refine yy ?_) | (refine yy2 ?_ ?_ <;> (intro hcmp; try simp only [cmp] at hcmp)) | (refine at_lookup ?_; (first | (refine s_lookup_d rfl rfl rfl rfl (by first | exact Comp.int .. | exact Comp.str .. | exact Comp.agg (by (repeat (first | exact EqC.nil | apply EqC.int | apply EqC.bool | apply EqC.str)); fail_if_success intros)) (ltd rfl) rfl rfl (by (assumption)) (by (simp)) (fun ki kz hki hkz hkf => ?_) (fun hmiss => ?_)) | (refine s_lookup rfl rfl rfl rfl rfl (by first | exact Comp.int .. | exact Comp.str .. | exact Comp.agg (by (repeat (first | exact EqC.nil | apply EqC.int | apply EqC.bool | apply EqC.str)); fail_if_success intros)) (ltd rfl) rfl rfl (by (assumption)) (by (simp)) (fun ki kz hki hkz hkf => ?_) (fun hmiss => ?_)))) | (refine at_append ?_; first | (refine z_append (fun kv => ?_)) | (refine z_append_suf (fun sx sp kv hsx hsp hsl => ?_))) | (refine s_update rfl rfl rfl rfl rfl rfl rfl (by first | exact ToD.d _ | exact ToD.nils _ | exact ToD.own rfl) (by first | exact Comp.int .. | exact Comp.str .. | exact Comp.agg (by (repeat (first | exact EqC.nil | apply EqC.int | apply EqC.bool | apply EqC.str)); fail_if_success intros)) rfl rfl (by (assumption)) (fun ki hki hkf => ?_) (fun hmiss => ?_)) | (refine at_call 48 ?_; refine y_call (hc := (hPk)) ?_) | (refine at_nil ?_; refine z_nil [0, 1, 2, 3, 4, 8, 9, 10, 11, 12, 13, 14, 16, 18, 19, 21, 22, 31, 44, 56, 57, 58, 59, 64, 73, 83, 84, 85, 86, 105] ?_) | (refine tc_seq fun K hK => ?_) | (apply_assumption -exfalso -symm))); all_goals (try refine unhalt ?_))
                    refine ⟨(j + 1, o2), ⟨by dsimp only; omega, ?_, ?_⟩, by dsimp only; omega, y_wk⟩
                    · dsimp only
                      rw [← ho1]
                      rw [Im.recv_len _ _ _ _ _ hrec]
                    · dsimp only
                      rw [hrr, List.drop_eq_getElem_cons hjl, hq]
                      conv => lhs; unfold Im.recvs
                      rw [hrec]
              · as_aux_lemma =>
                  have hgj : (ks.map dInt)[j]? = some (.int .i64 1) := by rw [List.getElem?_map, List.getElem?_eq_getElem hjl, hq]; rfl
                  cases hrec : Im.recv t f (Im.child t n 1) (Im.got l 1) o1 with
                  | none =>
                    rw [hrec] at hE
                    ((repeat' (first | (refine tr_at 4 ?_; (refine z_box 4 ?_)) | (refine tr_at 55 ?_; (refine z_makeMap 55 ?_)) | (refine tr_at 18 ?_; (refine z_alloc 18 ?_)) | (refine tr_at 81 ?_; refine z_append0 81 ?_) | (refine tr_at 22 ?_; (refine z_alloc 22 ?_)) | (refine tr_at 102 ?_; refine z_ilookup 1 ?_) | (refine tr_at 104 ?_; refine z_callE (hc := hE) ?_; rintro _ _ ⟨rfl, o', rfl⟩; refine ⟨rfl, ?_⟩) | (refine yyp ?_; (try refine s_bu ?_ ?_ <;> (intro hb; try simp only [decide_eq_true_eq, decide_eq_false_iff_not] at hb))) | (refine yy ?_) | (refine yy2 ?_ ?_ <;> (intro hcmp; try simp only [cmp] at hcmp)) | (refine at_lookup ?_; (first | (refine s_lookup_d rfl rfl rfl rfl (by first | exact Comp.int .. | exact Comp.str .. | exact Comp.agg (by (repeat (first | exact EqC.nil | apply EqC.int | apply EqC.bool | apply EqC.str)); fail_if_success intros)) (ltd rfl) rfl rfl (by (assumption)) (by (simp)) (fun ki kz hki hkz hkf => ?_) (fun hmiss => ?_)) | (refine s_lookup rfl rfl rfl rfl rfl (by first | exact Comp.int .. | exact Comp.str .. | exact Comp.agg (by (repeat (first | exact EqC.nil | apply EqC.int | apply EqC.bool | apply EqC.str)); fail_if_success intros)) (ltd rfl) rfl rfl (by (assumption)) (by (simp)) (fun ki kz hki hkz hkf => ?_) (fun hmiss => ?_)))) | (refine at_append ?_; first | (refine z_append (fun kv => ?_)) | (refine z_append_suf (fun sx sp kv hsx hsp hsl => ?_))) | (refine s_update rfl rfl rfl rfl rfl rfl rfl (by first | exact ToD.d _ | exact ToD.nils _ | exact ToD.own rfl) (by first | exact Comp.int .. | exact Comp.str .. | exact Comp.agg (by (repeat (first | exact EqC.nil | apply EqC.int | apply EqC.bool | apply EqC.str)); fail_if_success intros)) rfl rfl (by (assumption)) (fun ki hki hkf => ?_) (fun hmiss => ?_)) | (refine at_call 48 ?_; refine y_call (hc := (hPk)) ?_) | (refine at_nil ?_; refine z_nil [0, 1, 2, 3, 4, 8, 9, 10, 11, 12, 13, 14, 16, 18, 19, 21, 22, 31, 44, 56, 57, 58, 59, 64, 73, 83, 84, 85, 86, 105] ?_) | (refine tc_seq fun K hK => ?_) | (apply_assumption -exfalso -symm))); all_goals (try refine unhalt ?_))
                    obtain rfl : res = none := by rw [← hres, if_pos hkn, hrr, List.drop_eq_getElem_cons hjl, hq]; unfold Im.recvs; rw [hrec]
                    (refine tc_ret (EndsE.mk (.inl rfl) ⟨_, [(950, .row 45 1 false _ 0)], by (repeat (first | exact ResE.nil | apply ResE.tmp rfl (by first | exact ArgE.own rfl | exact ArgE.nils _ | exact ArgE.same _) | apply ResE.cells rfl rfl (by (repeat (first | exact Cut.done _ | apply Cut.take | apply Cut.skip)); fail_if_success intros) (by (repeat (first | exact ToDs.nil | apply ToDs.cons (ToD.d _) | apply ToDs.cons (ToD.nils _) | apply ToDs.cons (ToD.own rfl))); fail_if_success intros) (by rfl) | apply ResE.cell rfl rfl rfl (by first | exact ArgE.own rfl | exact ArgE.nils _ | exact ArgE.same _))); fail_if_success intros, .cons rfl .nil, by rfl, rfl, _, rfl⟩))
                  | some o2 =>
                    rw [hrec] at hE
                    ((repeat' (first | (refine tr_at 4 ?_; (refine z_box 4 ?_)) | (refine tr_at 55 ?_; (refine z_makeMap 55 ?_)) | (refine tr_at 18 ?_; (refine z_alloc 18 ?_)) | (refine tr_at 81 ?_; refine z_append0 81 ?_) | (refine tr_at 22 ?_; (refine z_alloc 22 ?_)) | (refine tr_at 102 ?_; refine z_ilookup 1 ?_) | (refine tr_at 104 ?_; refine y_callE (hc := hE) ?_; (try refine s_bu ?_ ?_ <;> (intro hb; try simp only [decide_eq_true_eq, decide_eq_false_iff_not] at hb))) | (refine yyp ?_; (try refine s_bu ?_ ?_ <;> (intro hb; try simp only [decide_eq_true_eq, decide_eq_false_iff_not] at hb))) | (refine yy ?_) | (refine yy2 ?_ ?_ <;> (intro hcmp; try simp only [cmp] at hcmp)) | (refine at_lookup ?_; (first | (refine s_lookup_d rfl rfl rfl rfl (by first | exact Comp.int .. | exact Comp.str .. | exact Comp.agg (by (repeat (first | exact EqC.nil | apply EqC.int | apply EqC.bool | apply EqC.str)); fail_if_success intros)) (ltd rfl) rfl rfl (by (assumption)) (by (simp)) (fun ki kz hki hkz hkf => ?_) (fun hmiss => ?_)) | (refine s_lookup rfl rfl rfl rfl rfl (by first | exact Comp.int .. | exact Comp.str .. | exact Comp.agg (by (repeat (first | exact EqC.nil | apply EqC.int | apply EqC.bool | apply EqC.str)); fail_if_success intros)) (ltd rfl) rfl rfl (by (assumption)) (by (simp)) (fun ki kz hki hkz hkf => ?_) (fun hmiss => ?_)))) | (refine at_append ?_; first | (refine z_append (fun kv => ?_)) | (refine z_append_suf (fun sx sp kv hsx hsp hsl => ?_))) | (refine s_update rfl rfl rfl rfl rfl rfl rfl (by first | exact ToD.d _ | exact ToD.nils _ | exact ToD.own rfl) (by first | exact Comp.int .. | exact Comp.str .. | exact Comp.agg (by (repeat (first | exact EqC.nil | apply EqC.int | apply EqC.bool | apply EqC.str)); fail_if_success intros)) rfl rfl (by (assumption)) (fun ki hki hkf => ?_) (fun hmiss => ?_)) | (refine at_call 48 ?_; refine y_call (hc := (hPk)) ?_) | (refine at_nil ?_; refine z_nil [0, 1, 2, 3, 4, 8, 9, 10, 11, 12, 13, 14, 16, 18, 19, 21, 22, 31, 44, 56, 57, 58, 59, 64, 73, 83, 84, 85, 86, 105] ?_) | (refine tc_seq fun K hK => ?_) | (apply_assumption -exfalso -symm))); all_goals (try refine unhalt ?_))
                    refine ⟨(j + 1, o2), ⟨by dsimp only; omega, ?_, ?_⟩, by dsimp only; omega, y_wk⟩
                    · dsimp only
                      rw [← ho1]
                      rw [Im.recv_len _ _ _ _ _ hrec]
                    · dsimp only
                      rw [hrr, List.drop_eq_getElem_cons hjl, hq]
                      conv => lhs; unfold Im.recvs
                      rw [hrec]
              · as_aux_lemma =>
                  have hgj : (ks.map dInt)[j]? = some (.int .i64 2) := by rw [List.getElem?_map, List.getElem?_eq_getElem hjl, hq]; rfl
                  cases hrec : Im.recv t f (Im.child t n 2) (Im.got l 2) o1 with
                  | none =>
                    rw [hrec] at hE
                    ((repeat' (first | (refine tr_at 4 ?_; (refine z_box 4 ?_)) | (refine tr_at 55 ?_; (refine z_makeMap 55 ?_)) | (refine tr_at 18 ?_; (refine z_alloc 18 ?_)) | (refine tr_at 81 ?_; refine z_append0 81 ?_) | (refine tr_at 22 ?_; (refine z_alloc 22 ?_)) | (refine tr_at 102 ?_; refine z_ilookup 2 ?_) | (refine tr_at 104 ?_; refine z_callE (hc := hE) ?_; rintro _ _ ⟨rfl, o', rfl⟩; refine ⟨rfl, ?_⟩) | (refine yyp ?_; (try refine s_bu ?_ ?_ <;> (intro hb; try simp only [decide_eq_true_eq, decide_eq_false_iff_not] at hb))) | (refine yy ?_) | (refine yy2 ?_ ?_ <;> (intro hcmp; try simp only [cmp] at hcmp)) | (refine at_lookup ?_; (first | (refine s_lookup_d rfl rfl rfl rfl (by first | exact Comp.int .. | exact Comp.str .. | exact Comp.agg (by (repeat (first | exact EqC.nil | apply EqC.int | apply EqC.bool | apply EqC.str)); fail_if_success intros)) (ltd rfl) rfl rfl (by (assumption)) (by (simp)) (fun ki kz hki hkz hkf => ?_) (fun hmiss => ?_)) | (refine s_lookup rfl rfl rfl rfl rfl (by first | exact Comp.int .. | exact Comp.str .. | exact Comp.agg (by (repeat (first | exact EqC.nil | apply EqC.int | apply EqC.bool | apply EqC.str)); fail_if_success intros)) (ltd rfl) rfl rfl (by (assumption)) (by (simp)) (fun ki kz hki hkz hkf => ?_) (fun hmiss => ?_)))) | (refine at_append ?_; first | (refine z_append (fun kv => ?_)) | (refine z_append_suf (fun sx sp kv hsx hsp hsl => ?_))) | (refine s_update rfl rfl rfl rfl rfl rfl rfl (by first | exact ToD.d _ | exact ToD.nils _ | exact ToD.own rfl) (by first | exact Comp.int .. | exact Comp.str .. | exact Comp.agg (by (repeat (first | exact EqC.nil | apply EqC.int | apply EqC.bool | apply EqC.str)); fail_if_success intros)) rfl rfl (by (assumption)) (fun ki hki hkf => ?_) (fun hmiss => ?_)) | (refine at_call 48 ?_; refine y_call (hc := (hPk)) ?_) | (refine at_nil ?_; refine z_nil [0, 1, 2, 3, 4, 8, 9, 10, 11, 12, 13, 14, 16, 18, 19, 21, 22, 31, 44, 56, 57, 58, 59, 64, 73, 83, 84, 85, 86, 105] ?_) | (refine tc_seq fun K hK => ?_) | (apply_assumption -exfalso -symm))); all_goals (try refine unhalt ?_))
                    obtain rfl : res = none := by rw [← hres, if_pos hkn, hrr, List.drop_eq_getElem_cons hjl, hq]; unfold Im.recvs; rw [hrec]
                    (refine tc_ret (EndsE.mk (.inl rfl) ⟨_, [(950, .row 45 1 false _ 0)], by (repeat (first | exact ResE.nil | apply ResE.tmp rfl (by first | exact ArgE.own rfl | exact ArgE.nils _ | exact ArgE.same _) | apply ResE.cells rfl rfl (by (repeat (first | exact Cut.done _ | apply Cut.take | apply Cut.skip)); fail_if_success intros) (by (repeat (first | exact ToDs.nil | apply ToDs.cons (ToD.d _) | apply ToDs.cons (ToD.nils _) | apply ToDs.cons (ToD.own rfl))); fail_if_success intros) (by rfl) | apply ResE.cell rfl rfl rfl (by first | exact ArgE.own rfl | exact ArgE.nils _ | exact ArgE.same _))); fail_if_success intros, .cons rfl .nil, by rfl, rfl, _, rfl⟩))
                  | some o2 =>
                    rw [hrec] at hE
                    ((repeat' (first | (refine tr_at 4 ?_; (refine z_box 4 ?_)) | (refine tr_at 55 ?_; (refine z_makeMap 55 ?_)) | (refine tr_at 18 ?_; (refine z_alloc 18 ?_)) | (refine tr_at 81 ?_; refine z_append0 81 ?_) | (refine tr_at 22 ?_; (refine z_alloc 22 ?_)) | (refine tr_at 102 ?_; refine z_ilookup 2 ?_) | (refine tr_at 104 ?_; refine y_callE (hc := hE) ?_; (try refine s_bu ?_ ?_ <;> (intro hb; try simp only [decide_eq_true_eq, decide_eq_false_iff_not] at hb))) | (refine yyp ?_; (try refine s_bu ?_ ?_ <;> (intro hb; try simp only [decide_eq_true_eq, decide_eq_false_iff_not] at hb))) | (refine yy ?_) | (refine yy2 ?_ ?_ <;> (intro hcmp; try simp only [cmp] at hcmp)) | (refine at_lookup ?_; (first | (refine s_lookup_d rfl rfl rfl rfl (by first | exact Comp.int .. | exact Comp.str .. | exact Comp.agg (by (repeat (first | exact EqC.nil | apply EqC.int | apply EqC.bool | apply EqC.str)); fail_if_success intros)) (ltd rfl) rfl rfl (by (assumption)) (by (simp)) (fun ki kz hki hkz hkf => ?_) (fun hmiss => ?_)) | (refine s_lookup rfl rfl rfl rfl rfl (by first | exact Comp.int .. | exact Comp.str .. | exact Comp.agg (by (repeat (first | exact EqC.nil | apply EqC.int | apply EqC.bool | apply EqC.str)); fail_if_success intros)) (ltd rfl) rfl rfl (by (assumption)) (by (simp)) (fun ki kz hki hkz hkf => ?_) (fun hmiss => ?_)))) | (refine at_append ?_; first | (refine z_append (fun kv => ?_)) | (refine z_append_suf (fun sx sp kv hsx hsp hsl => ?_))) | (refine s_update rfl rfl rfl rfl rfl rfl rfl (by first | exact ToD.d _ | exact ToD.nils _ | exact ToD.own rfl) (by first | exact Comp.int .. | exact Comp.str .. | exact Comp.agg (by (repeat (first | exact EqC.nil | apply EqC.int | apply EqC.bool | apply EqC.str)); fail_if_success intros)) rfl rfl (by (assumption)) (fun ki hki hkf => ?_) (fun hmiss => ?_)) | (refine at_call 48 ?_; refine y_call (hc := (hPk)) ?_) | (refine at_nil ?_; refine z_nil [0, 1, 2, 3, 4, 8, 9, 10, 11, 12, 13, 14, 16, 18, 19, 21, 22, 31, 44, 56, 57, 58, 59, 64, 73, 83, 84, 85, 86, 105] ?_) | (refine tc_seq fun K hK => ?_) | (apply_assumption -exfalso -symm))); all_goals (try refine unhalt ?_))
                    refine ⟨(j + 1, o2), ⟨by dsimp only; omega, ?_, ?_⟩, by dsimp only; omega, y_wk⟩
                    · dsimp only
                      rw [← ho1]
                      rw [Im.recv_len _ _ _ _ _ hrec]
                    · dsimp only
                      rw [hrr, List.drop_eq_getElem_cons hjl, hq]
                      conv => lhs; unfold Im.recvs
                      rw [hrec]
              · as_aux_lemma =>
                  have hgj : (ks.map dInt)[j]? = some (.int .i64 3) := by rw [List.getElem?_map, List.getElem?_eq_getElem hjl, hq]; rfl
                  cases hrec : Im.recv t f (Im.child t n 3) (Im.got l 3) o1 with
                  | none =>
                    rw [hrec] at hE
                    ((repeat' (first | (refine tr_at 4 ?_; (refine z_box 4 ?_)) | (refine tr_at 55 ?_; (refine z_makeMap 55 ?_)) | (refine tr_at 18 ?_; (refine z_alloc 18 ?_)) | (refine tr_at 81 ?_; refine z_append0 81 ?_) | (refine tr_at 22 ?_; (refine z_alloc 22 ?_)) | (refine tr_at 102 ?_; refine z_ilookup 3 ?_) | (refine tr_at 104 ?_; refine z_callE (hc := hE) ?_; rintro _ _ ⟨rfl, o', rfl⟩; refine ⟨rfl, ?_⟩) | (refine yyp ?_; (try refine s_bu ?_ ?_ <;> (intro hb; try simp only [decide_eq_true_eq, decide_eq_false_iff_not] at hb))) | (refine yy ?_) | (refine yy2 ?_ ?_ <;> (intro hcmp; try simp only [cmp] at hcmp)) | (refine at_lookup ?_; (first | (refine s_lookup_d rfl rfl rfl rfl (by first | exact Comp.int .. | exact Comp.str .. | exact Comp.agg (by (repeat (first | exact EqC.nil | apply EqC.int | apply EqC.bool | apply EqC.str)); fail_if_success intros)) (ltd rfl) rfl rfl (by (assumption)) (by (simp)) (fun ki kz hki hkz hkf => ?_) (fun hmiss => ?_)) | (refine s_lookup rfl rfl rfl rfl rfl (by first | exact Comp.int .. | exact Comp.str .. | exact Comp.agg (by (repeat (first | exact EqC.nil | apply EqC.int | apply EqC.bool | apply EqC.str)); fail_if_success intros)) (ltd rfl) rfl rfl (by (assumption)) (by (simp)) (fun ki kz hki hkz hkf => ?_) (fun hmiss => ?_)))) | (refine at_append ?_; first | (refine z_append (fun kv => ?_)) | (refine z_append_suf (fun sx sp kv hsx hsp hsl => ?_))) | (refine s_update rfl rfl rfl rfl rfl rfl rfl (by first | exact ToD.d _ | exact ToD.nils _ | exact ToD.own rfl) (by first | exact Comp.int .. | exact Comp.str .. | exact Comp.agg (by (repeat (first | exact EqC.nil | apply EqC.int | apply EqC.bool | apply EqC.str)); fail_if_success intros)) rfl rfl (by (assumption)) (fun ki hki hkf => ?_) (fun hmiss => ?_)) | (refine at_call 48 ?_; refine y_call (hc := (hPk)) ?_) | (refine at_nil ?_; refine z_nil [0, 1, 2, 3, 4, 8, 9, 10, 11, 12, 13, 14, 16, 18, 19, 21, 22, 31, 44, 56, 57, 58, 59, 64, 73, 83, 84, 85, 86, 105] ?_) | (refine tc_seq fun K hK => ?_) | (apply_assumption -exfalso -symm))); all_goals (try refine unhalt ?_))
                    obtain rfl : res = none := by rw [← hres, if_pos hkn, hrr, List.drop_eq_getElem_cons hjl, hq]; unfold Im.recvs; rw [hrec]
                    (refine tc_ret (EndsE.mk (.inl rfl) ⟨_, [(950, .row 45 1 false _ 0)], by (repeat (first | exact ResE.nil | apply ResE.tmp rfl (by first | exact ArgE.own rfl | exact ArgE.nils _ | exact ArgE.same _) | apply ResE.cells rfl rfl (by (repeat (first | exact Cut.done _ | apply Cut.take | apply Cut.skip)); fail_if_success intros) (by (repeat (first | exact ToDs.nil | apply ToDs.cons (ToD.d _) | apply ToDs.cons (ToD.nils _) | apply ToDs.cons (ToD.own rfl))); fail_if_success intros) (by rfl) | apply ResE.cell rfl rfl rfl (by first | exact ArgE.own rfl | exact ArgE.nils _ | exact ArgE.same _))); fail_if_success intros, .cons rfl .nil, by rfl, rfl, _, rfl⟩))
                  | some o2 =>
                    rw [hrec] at hE
                    ((repeat' (first | (refine tr_at 4 ?_; (refine z_box 4 ?_)) | (refine tr_at 55 ?_; (refine z_makeMap 55 ?_)) | (refine tr_at 18 ?_; (refine z_alloc 18 ?_)) | (refine tr_at 81 ?_; refine z_append0 81 ?_) | (refine tr_at 22 ?_; (refine z_alloc 22 ?_)) | (refine tr_at 102 ?_; refine z_ilookup 3 ?_) | (refine tr_at 104 ?_; refine y_callE (hc := hE) ?_; (try refine s_bu ?_ ?_ <;> (intro hb; try simp only [decide_eq_true_eq, decide_eq_false_iff_not] at hb))) | (refine yyp ?_; (try refine s_bu ?_ ?_ <;> (intro hb; try simp only [decide_eq_true_eq, decide_eq_false_iff_not] at hb))) | (refine yy ?_) | (refine yy2 ?_ ?_ <;> (intro hcmp; try simp only [cmp] at hcmp)) | (refine at_lookup ?_; (first | (refine s_lookup_d rfl rfl rfl rfl (by first | exact Comp.int .. | exact Comp.str .. | exact Comp.agg (by (repeat (first | exact EqC.nil | apply EqC.int | apply EqC.bool | apply EqC.str)); fail_if_success intros)) (ltd rfl) rfl rfl (by (assumption)) (by (simp)) (fun ki kz hki hkz hkf => ?_) (fun hmiss => ?_)) | (refine s_lookup rfl rfl rfl rfl rfl (by first | exact Comp.int .. | exact Comp.str .. | exact Comp.agg (by (repeat (first | exact EqC.nil | apply EqC.int | apply EqC.bool | apply EqC.str)); fail_if_success intros)) (ltd rfl) rfl rfl (by (assumption)) (by (simp)) (fun ki kz hki hkz hkf => ?_) (fun hmiss => ?_)))) | (refine at_append ?_; first | (refine z_append (fun kv => ?_)) | (refine z_append_suf (fun sx sp kv hsx hsp hsl => ?_))) | (refine s_update rfl rfl rfl rfl rfl rfl rfl (by first | exact ToD.d _ | exact ToD.nils _ | exact ToD.own rfl) (by first | exact Comp.int .. | exact Comp.str .. | exact Comp.agg (by (repeat (first | exact EqC.nil | apply EqC.int | apply EqC.bool | apply EqC.str)); fail_if_success intros)) rfl rfl (by (assumption)) (fun ki hki hkf => ?_) (fun hmiss => ?_)) | (refine at_call 48 ?_; refine y_call (hc := (hPk)) ?_) | (refine at_nil ?_; refine z_nil [0, 1, 2, 3, 4, 8, 9, 10, 11, 12, 13, 14, 16, 18, 19, 21, 22, 31, 44, 56, 57, 58, 59, 64, 73, 83, 84, 85, 86, 105] ?_) | (refine tc_seq fun K hK => ?_) | (apply_assumption -exfalso -symm))); all_goals (try refine unhalt ?_))
                    refine ⟨(j + 1, o2), ⟨by dsimp only; omega, ?_, ?_⟩, by dsimp only; omega, y_wk⟩
                    · dsimp only
                      rw [← ho1]
                      rw [Im.recv_len _ _ _ _ _ hrec]
                    · dsimp only
                      rw [hrr, List.drop_eq_getElem_cons hjl, hq]
                      conv => lhs; unfold Im.recvs
                      rw [hrec]
            · have hjk : j = ks.length := by omega
              subst hjk
              obtain rfl : res = some o1 := by rw [← hres, if_pos hkn, hrr, List.drop_length]; rfl
              ((repeat' (first | (refine tr_at 4 ?_; (refine z_box 4 ?_)) | (refine tr_at 55 ?_; (refine z_makeMap 55 ?_)) | (refine tr_at 18 ?_; (refine z_alloc 18 ?_)) | (refine tr_at 81 ?_; refine z_append0 81 ?_) | (refine tr_at 22 ?_; (refine z_alloc 22 ?_)) | (refine yyp ?_; (try refine s_bu ?_ ?_ <;> (intro hb; try simp only [decide_eq_true_eq, decide_eq_false_iff_not] at hb))) | (refine yy ?_) | (refine yy2 ?_ ?_ <;> (intro hcmp; try simp only [cmp] at hcmp)) | (refine at_lookup ?_; (first | (refine s_lookup_d rfl rfl rfl rfl (by first | exact Comp.int .. | exact Comp.str .. | exact Comp.agg (by (repeat (first | exact EqC.nil | apply EqC.int | apply EqC.bool | apply EqC.str)); fail_if_success intros)) (ltd rfl) rfl rfl (by (assumption)) (by (simp)) (fun ki kz hki hkz hkf => ?_) (fun hmiss => ?_)) | (refine s_lookup rfl rfl rfl rfl rfl (by first | exact Comp.int .. | exact Comp.str .. | exact Comp.agg (by (repeat (first | exact EqC.nil | apply EqC.int | apply EqC.bool | apply EqC.str)); fail_if_success intros)) (ltd rfl) rfl rfl (by (assumption)) (by (simp)) (fun ki kz hki hkz hkf => ?_) (fun hmiss => ?_)))) | (refine at_append ?_; first | (refine z_append (fun kv => ?_)) | (refine z_append_suf (fun sx sp kv hsx hsp hsl => ?_))) | (refine s_update rfl rfl rfl rfl rfl rfl rfl (by first | exact ToD.d _ | exact ToD.nils _ | exact ToD.own rfl) (by first | exact Comp.int .. | exact Comp.str .. | exact Comp.agg (by (repeat (first | exact EqC.nil | apply EqC.int | apply EqC.bool | apply EqC.str)); fail_if_success intros)) rfl rfl (by (assumption)) (fun ki hki hkf => ?_) (fun hmiss => ?_)) | (refine at_nil ?_; refine z_nil [0, 1, 2, 3, 4, 8, 9, 10, 11, 12, 13, 14, 16, 18, 19, 21, 22, 31, 44, 56, 57, 58, 59, 64, 73, 83, 84, 85, 86, 105] ?_) | (refine tc_seq fun K hK => ?_) | (apply_assumption -exfalso -symm))); all_goals (try refine unhalt ?_))
              (refine tc_ret (y_rete ⟨?_, rfl⟩))
              rfl
    · rw [if_neg hpre]
      have hpx : ¬ I.bootB <+: b := by rw [List.prefix_iff_eq_take, hbl]; exact fun h => hpre h.symm
      unfold cutPre at hcut
      rw [if_neg hpx] at hcut
      (refine y_entere Tryz.func26 Tryz.ntmps26 Tryz.results26 fun w M E b0 => ?_; simp only [slots, List.map_cons, List.map_nil, List.zipIdx_cons, List.zipIdx_nil, Nat.reduceAdd])
      ((repeat' (first | (refine tr_at 4 ?_; (refine z_box 4 ?_)) | (refine tr_at 55 ?_; (refine z_makeMap 55 ?_)) | (refine tr_at 18 ?_; (refine z_alloc 18 ?_)) | (refine tr_at 81 ?_; refine z_append0 81 ?_) | (refine tr_at 22 ?_; (refine z_alloc 22 ?_)) | (refine yyp ?_; (try refine s_bu ?_ ?_ <;> (intro hb; try simp only [decide_eq_true_eq, decide_eq_false_iff_not] at hb))) | (refine yy ?_) | (refine yy2 ?_ ?_ <;> (intro hcmp; try simp only [cmp] at hcmp)) | (refine at_call 15 ?_; refine y_call (hc := (boot_fn)) ?_) | (refine at_call 44 ?_; refine y_call (hc := (hcut)) ?_) | (refine at_lookup ?_; (first | (refine s_lookup_d rfl rfl rfl rfl (by first | exact Comp.int .. | exact Comp.str .. | exact Comp.agg (by (repeat (first | exact EqC.nil | apply EqC.int | apply EqC.bool | apply EqC.str)); fail_if_success intros)) (ltd rfl) rfl rfl (by (assumption)) (by (simp)) (fun ki kz hki hkz hkf => ?_) (fun hmiss => ?_)) | (refine s_lookup rfl rfl rfl rfl rfl (by first | exact Comp.int .. | exact Comp.str .. | exact Comp.agg (by (repeat (first | exact EqC.nil | apply EqC.int | apply EqC.bool | apply EqC.str)); fail_if_success intros)) (ltd rfl) rfl rfl (by (assumption)) (by (simp)) (fun ki kz hki hkz hkf => ?_) (fun hmiss => ?_)))) | (refine at_append ?_; first | (refine z_append (fun kv => ?_)) | (refine z_append_suf (fun sx sp kv hsx hsp hsl => ?_))) | (refine s_update rfl rfl rfl rfl rfl rfl rfl (by first | exact ToD.d _ | exact ToD.nils _ | exact ToD.own rfl) (by first | exact Comp.int .. | exact Comp.str .. | exact Comp.agg (by (repeat (first | exact EqC.nil | apply EqC.int | apply EqC.bool | apply EqC.str)); fail_if_success intros)) rfl rfl (by (assumption)) (fun ki hki hkf => ?_) (fun hmiss => ?_)) | (refine at_nil ?_; refine z_nil [0, 1, 2, 3, 4, 8, 9, 10, 11, 12, 13, 14, 16, 18, 19, 21, 22, 31, 44, 56, 57, 58, 59, 64, 73, 83, 84, 85, 86, 105] ?_) | (refine tc_seq fun K hK => ?_) | (apply_assumption -exfalso -symm))); all_goals (try refine unhalt ?_))
      (refine tc_ret (EndsE.mk (.inl rfl) ⟨_, [(950, .row 45 1 false _ 0)], by (repeat (first | exact ResE.nil | apply ResE.tmp rfl (by first | exact ArgE.own rfl | exact ArgE.nils _ | exact ArgE.same _) | apply ResE.cells rfl rfl (by (repeat (first | exact Cut.done _ | apply Cut.take | apply Cut.skip)); fail_if_success intros) (by (repeat (first | exact ToDs.nil | apply ToDs.cons (ToD.d _) | apply ToDs.cons (ToD.nils _) | apply ToDs.cons (ToD.own rfl))); fail_if_success intros) (by rfl) | apply ResE.cell rfl rfl rfl (by first | exact ArgE.own rfl | exact ArgE.nils _ | exact ArgE.same _))); fail_if_success intros, .cons rfl .nil, by rfl, rfl, _, rfl⟩))
end Go.Proofs.YtcblefmjacofgaaGreatDoor
namespace Go.Proofs.YtcblefmjacofgaaGreatDoor
open Go.RowKit
theorem rep_out (n : Nat) : (List.replicate n ([] : List I.Cmd)).map dOut = List.replicate n (D.list 4 []) := by rw [List.map_replicate]; rfl
attribute [local irreducible] TR TC
set_option maxRecDepth 100000 in
set_option maxHeartbeats 4000000 in
theorem Split_fn (t : To.Topo) (b : List UInt8) (hb : b.length ≤ 1000000000) :
    FnD Tryz.prog glT 14 [.d (dTopo t), .d (dBytes b)] (fun v => v = .tup [.d (.list 1 ((Im.split t b).1.map dOut)), .d (.int .i64 (Im.split t b).2)]) := by
  have hm := tmay_fn glT t
  by_cases hmay : To.May t
  · have hn0 := hmay.sound.n.1
    have hn8 := hmay.sound.n.2
    have hlen := (To.order_good hmay.sound).len hn8 (by omega)
    have hE : FnE Tryz.prog glT 26 [.d (dTopo t), .d (.int .i64 t.host.node), .d (dBytes b), .own 950 0] [(950, .row 45 1 false (List.replicate t.nodes.toNat (D.list 4 [])) 0)] (RecvR (Im.recv t 9 t.host.node b (List.replicate t.nodes.toNat []))) := by
      obtain ⟨m, ho⟩ := To.order_zero t
      have h0 : 0 < (To.order t).length := by rw [ho]; simp
      have := recv_of t hmay 9 0 h0 (by omega) b (List.replicate t.nodes.toNat []) hb (by rw [List.length_replicate]; omega)
      rw [rep_out] at this
      have e : (To.order t)[0].node = t.host.node := by simp [ho]
      rw [e] at this
      exact this
    unfold Im.split
    rw [if_pos hmay]
    unfold dTopo at hm hE ⊢
    cases hrec : Im.recv t 9 t.host.node b (List.replicate t.nodes.toNat []) with
    | none =>
      rw [hrec] at hE
      (refine y_enter Tryz.func14 Tryz.ntmps14 Tryz.results14 fun w M => ?_; simp only [slots, List.map_cons, List.map_nil, List.zipIdx_cons, List.zipIdx_nil, Nat.reduceAdd])
      ((repeat' (first | (refine tr_at 2 ?_; (refine z_box 2 ?_)) | (refine tr_at 12 ?_; (refine z_make 950 ?_)) | (refine tr_at 19 ?_; refine z_callE (hc := hE) ?_; rintro _ _ ⟨rfl, o', rfl⟩; refine ⟨rfl, ?_⟩) | (refine yyp ?_; (try refine s_bu ?_ ?_ <;> (intro hb; try simp only [decide_eq_true_eq, decide_eq_false_iff_not] at hb))) | (refine yy ?_) | (refine yy2 ?_ ?_ <;> (intro hcmp; try simp only [cmp] at hcmp)) | (refine at_call 25 ?_; refine y_call (hc := (hm)) ?_; (try refine s_bu ?_ ?_ <;> (intro hb; try simp only [decide_eq_true_eq, decide_eq_false_iff_not] at hb))) | (refine at_nil ?_; refine z_nil [0, 1, 2, 4, 5, 6, 7, 9, 20] ?_) | (refine tc_seq fun K hK => ?_) | (apply_assumption -exfalso -symm))); all_goals (try refine unhalt ?_))
      all_goals
        first
          | (exfalso; exact absurd hmay (by assumption))
          | ((refine tc_ret (y_ret ?_))
             rfl)
    | some o =>
      rw [hrec] at hE
      (refine y_enter Tryz.func14 Tryz.ntmps14 Tryz.results14 fun w M => ?_; simp only [slots, List.map_cons, List.map_nil, List.zipIdx_cons, List.zipIdx_nil, Nat.reduceAdd])
      ((repeat' (first | (refine tr_at 2 ?_; (refine z_box 2 ?_)) | (refine tr_at 12 ?_; (refine z_make 950 ?_)) | (refine tr_at 19 ?_; refine y_callE (hc := hE) ?_; (try refine s_bu ?_ ?_ <;> (intro hb; try simp only [decide_eq_true_eq, decide_eq_false_iff_not] at hb))) | (refine tc_at 6 ?_; refine halt ?_) | (refine yyp ?_; (try refine s_bu ?_ ?_ <;> (intro hb; try simp only [decide_eq_true_eq, decide_eq_false_iff_not] at hb))) | (refine yy ?_) | (refine yy2 ?_ ?_ <;> (intro hcmp; try simp only [cmp] at hcmp)) | (refine at_call 25 ?_; refine y_call (hc := (hm)) ?_; (try refine s_bu ?_ ?_ <;> (intro hb; try simp only [decide_eq_true_eq, decide_eq_false_iff_not] at hb))) | (refine at_nil ?_; refine z_nil [0, 1, 2, 4, 5, 6, 7, 9, 20] ?_) | (refine tc_seq fun K hK => ?_) | (apply_assumption -exfalso -symm))); all_goals (try refine unhalt ?_))
      all_goals
        first
          | (exfalso; exact absurd hmay (by assumption))
          | (refine tc_share 950 rfl ?_
             ((repeat' (first | (refine tr_at 2 ?_; (refine z_box 2 ?_)) | (refine tr_at 12 ?_; (refine z_make 12 ?_)) | (refine yyp ?_; (try refine s_bu ?_ ?_ <;> (intro hb; try simp only [decide_eq_true_eq, decide_eq_false_iff_not] at hb))) | (refine yy ?_) | (refine yy2 ?_ ?_ <;> (intro hcmp; try simp only [cmp] at hcmp)) | (refine at_nil ?_; refine z_nil [0, 1, 2, 4, 5, 6, 7, 9, 20] ?_) | (refine tc_seq fun K hK => ?_) | (apply_assumption -exfalso -symm))); all_goals (try refine unhalt ?_))
             (refine tc_ret (y_ret ?_))
             rfl)
  · unfold Im.split
    rw [if_neg hmay]
    unfold dTopo at hm ⊢
    (refine y_enter Tryz.func14 Tryz.ntmps14 Tryz.results14 fun w M => ?_; simp only [slots, List.map_cons, List.map_nil, List.zipIdx_cons, List.zipIdx_nil, Nat.reduceAdd])
    ((repeat' (first | (refine tr_at 2 ?_; (refine z_box 2 ?_)) | (refine tr_at 12 ?_; (refine z_make 950 ?_)) | (refine yyp ?_; (try refine s_bu ?_ ?_ <;> (intro hb; try simp only [decide_eq_true_eq, decide_eq_false_iff_not] at hb))) | (refine yy ?_) | (refine yy2 ?_ ?_ <;> (intro hcmp; try simp only [cmp] at hcmp)) | (refine at_call 25 ?_; refine y_call (hc := (hm)) ?_; (try refine s_bu ?_ ?_ <;> (intro hb; try simp only [decide_eq_true_eq, decide_eq_false_iff_not] at hb))) | (refine at_nil ?_; refine z_nil [0, 1, 2, 4, 5, 6, 7, 9, 20] ?_) | (refine tc_seq fun K hK => ?_) | (apply_assumption -exfalso -symm))); all_goals (try refine unhalt ?_))
    all_goals
      first
        | (exfalso; exact absurd (by assumption) hmay)
        | ((refine tc_ret (y_ret ?_))
           rfl)
end Go.Proofs.YtcblefmjacofgaaGreatDoor
