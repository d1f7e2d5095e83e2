/- Parts: H1. -/
import Derived.Test.YtcblefmjacofgaaDoorA13
import Derived.Test.YtcblefmjacofgaaDoorA8
set_option linter.all false
set_option linter.unusedVariables false
set_option linter.unusedSimpArgs false
namespace Go.Proofs.YtcblefmjacofgaaDoor
open Go.RowKit
attribute [local irreducible] TR TC
set_option maxRecDepth 100000 in
set_option maxHeartbeats 8000000 in
theorem follow_of (gl : List (Nat × List D)) (t : To.Topo) (hmay : To.May t) : ∀ (f i : Nat) (hi : i < (To.order t).length), (To.order t).length ≤ i + f → ∀ (b : List UInt8) (out : List (List I.Cmd)), b.length ≤ 1000000000 → (out.length : Int) = t.nodes →
    FnE Tryd.prog gl 37 [.d (dTopo t), .d (.int .i64 (To.order t)[i].node), .d (dBytes b), .own 950 0] [(950, .row 44 1 false (out.map dOut) 0)] (RecvR (Im.recv t f (To.order t)[i].node b out)) := by
  intro f
  induction f with
  | zero => intro i hi h; omega
  | succ f ih =>
    intro i hi hf b out hblen hout
    have hr := (To.order_good hmay.sound).range _ (List.getElem_mem hi)
    unfold To.inR at hr
    obtain ⟨hn0, hn1⟩ := hr
    have hch := fun k hk => Im.child_at (k := k) hmay hi hk
    generalize (To.order t)[i].node = n at hn0 hn1 hch ⊢
    have hC : FnD Tryd.prog gl 56 [.d (dTopo t), .d (.int .i64 n)] (fun v => v = .tup [.d (.list 1 ((To.kids t n).map dInt)), .d (.int .i64 0)]) := by
      have := ref_children_fn gl t n
      unfold To.children at this
      rw [if_pos hmay, if_neg (by omega)] at this
      exact this
    have hP : ∀ k ∈ To.kids t n, FnD Tryd.prog gl 57 [.d (dTopo t), .d (.int .i64 n), .d (.int .i64 (k : Nat))] (fun v => v = .d (.int .i64 (Im.child t n k))) := fun k hk => by
      have := ref_child_fn gl t n (k : Nat)
      rw [if_pos hmay] at this
      exact this
    have hk4 := fun k (hk : k ∈ To.kids t n) => Im.kids_lt hk
    have hkl := Im.kids_len t n
    unfold Im.recv
    have ih' : ∀ k ∈ To.kids t n, ∀ (b : List UInt8) (out : List (List I.Cmd)), b.length ≤ 1000000000 → (out.length : Int) = t.nodes → FnE Tryd.prog gl 37 [.d (dTopo t), .d (.int .i64 (Im.child t n k)), .d (dBytes b), .own 950 0] [(950, .row 44 1 false (out.map dOut) 0)] (RecvR (Im.recv t f (Im.child t n k) b out)) := fun k hk => by
      obtain ⟨j, hij, hj, e⟩ := hch k hk
      have := ih j hj (by omega)
      rw [e] at this
      exact this
    clear ih
    generalize To.kids t n = ks at hC hP hch hk4 hkl ih' ⊢
    unfold dTopo at hC hP ih' ⊢
    have hbl : I.bootB.length = 41 := by decide
    have hB := ref_boot_fn gl
    by_cases hpre : b.take 41 = I.bootB
    · rw [if_pos hpre]
      have hb41 : 41 ≤ b.length := by
        have := congrArg List.length hpre
        rw [List.length_take, hbl] at this
        omega
      have hget := ref_get38_fn gl (b.drop 41) (by rw [List.length_drop]; omega)
      rw [← hbl] at hpre hget ⊢
      have hget' : FnD Tryd.prog gl 55 [.d (.list 1 (((b.map dByte).drop I.bootB.length).take ((b.map dByte).length - I.bootB.length)))] (fun v => v = vGet (I.getCs (b.drop I.bootB.length))) := FnD.at hget (by rw [slice_all]; rfl)
      have hbs : (⟨(b.take I.bootB.length).toArray⟩ : ByteArray) = ⟨I.bootB.toArray⟩ := by rw [hpre]
      generalize I.bootB = boot at *
      cases hg : I.getCs (b.drop boot.length) with
      | none =>
        rw [hg] at hget'
        unfold vGet at hget'
        (refine y_entere Tryd.func37 Tryd.ntmps37 Tryd.results37 fun w M E b0 => ?_; simp only [slots, List.map_cons, List.map_nil, List.zipIdx_cons, List.zipIdx_nil, Nat.reduceAdd])
        ((repeat' (first | (refine z_box (d := 4) 4 ?_) | (refine z_make (d := 63) 63 ?_) | (refine z_append0 (d := 112) 112 ?_) | (refine yyp ?_; (try refine s_bu ?_ ?_ <;> (intro hb; try simp only [decide_eq_true_eq, decide_eq_false_iff_not] at hb))) | (refine yy ?_) | (refine yy2 ?_ ?_ <;> (intro hcmp; try simp only [cmp] at hcmp)) | (refine y_call (hc := (hB)) ?_) | (refine y_call (hc := (hget')) ?_) | (refine z_append (fun kv => ?_)) | (refine z_append_suf (fun sx sp kv hsx hsp hsl => ?_)) | (refine z_nil [0, 1, 2, 3, 4, 8, 9, 10, 11, 12, 13, 15, 16, 17, 18, 19, 20, 36, 52, 67, 75, 87, 100, 117, 137] ?_) | (refine tc_seq fun K hK => ?_) | (refine z_draw (id := 2) [] (lin [0, 4, 8, 12, 16, 20, 24, 28, 32, 36, 44, 41, 49, 52, 56]) ?_) | (refine z_draw (id := 22) [11, 13] (lin [0, 4, 8, 12, 16, 24, 28, 32, 36, 21, 41, 47, 48, 55]) ?_) | (refine z_draw (id := 26) [] (lin [8, 12, 16, 20, 32, 36, 40, 44, 60, 1, 5, 25, 49, 52, 57, 30, 66, 68]) ?_) | (apply_assumption -exfalso -symm))); all_goals (try refine unhalt ?_))
        all_goals first | (exfalso; exact absurd hbs (by assumption)) | (refine tc_ret (EndsE.mk (.inl rfl) ⟨_, [(950, .row 44 1 false _ 0)], by (repeat (first | exact ResE.nil | apply ResE.tmp rfl (by first | exact ArgE.own rfl | exact ArgE.nils _ | exact ArgE.same _) | apply ResE.cells rfl rfl (by (repeat (first | exact Cut.done _ | apply Cut.take | apply Cut.skip)); fail_if_success intros) (by (repeat (first | exact ToDs.nil | apply ToDs.cons (ToD.d _) | apply ToDs.cons (ToD.nils _) | apply ToDs.cons (ToD.own rfl))); fail_if_success intros) (by rfl) | apply ResE.cell rfl rfl rfl (by first | exact ArgE.own rfl | exact ArgE.nils _ | exact ArgE.same _))); fail_if_success intros, .cons rfl .nil, by rfl, rfl, _, rfl⟩))
      | some p =>
        obtain ⟨l, more⟩ := p
        obtain ⟨henc, hall⟩ := I.getCs_enc hg
        rw [hg] at hget'
        unfold vGet at hget'
        cases more with
        | cons x more =>
          have hml : 0 < (x :: more).length := Nat.succ_pos _
          (refine y_entere Tryd.func37 Tryd.ntmps37 Tryd.results37 fun w M E b0 => ?_; simp only [slots, List.map_cons, List.map_nil, List.zipIdx_cons, List.zipIdx_nil, Nat.reduceAdd])
          ((repeat' (first | (refine z_box (d := 4) 4 ?_) | (refine z_make (d := 63) 63 ?_) | (refine z_append0 (d := 112) 112 ?_) | (refine yyp ?_; (try refine s_bu ?_ ?_ <;> (intro hb; try simp only [decide_eq_true_eq, decide_eq_false_iff_not] at hb))) | (refine yy ?_) | (refine yy2 ?_ ?_ <;> (intro hcmp; try simp only [cmp] at hcmp)) | (refine y_call (hc := (hB)) ?_) | (refine y_call (hc := (hget')) ?_) | (refine z_append (fun kv => ?_)) | (refine z_append_suf (fun sx sp kv hsx hsp hsl => ?_)) | (refine z_nil [0, 1, 2, 3, 4, 8, 9, 10, 11, 12, 13, 15, 16, 17, 18, 19, 20, 36, 52, 67, 75, 87, 100, 117, 137] ?_) | (refine tc_seq fun K hK => ?_) | (refine z_draw (id := 2) [] (lin [0, 4, 8, 12, 16, 20, 24, 28, 32, 36, 44, 41, 49, 52, 56]) ?_) | (refine z_draw (id := 22) [11, 13] (lin [0, 4, 8, 12, 16, 24, 28, 32, 36, 21, 41, 47, 48, 55]) ?_) | (refine z_draw (id := 26) [] (lin [8, 12, 16, 20, 32, 36, 40, 44, 60, 1, 5, 25, 49, 52, 57, 30, 66, 68]) ?_) | (apply_assumption -exfalso -symm))); all_goals (try refine unhalt ?_))
          all_goals first | (exfalso; exact absurd hbs (by assumption)) | (refine tc_ret (EndsE.mk (.inl rfl) ⟨_, [(950, .row 44 1 false _ 0)], by (repeat (first | exact ResE.nil | apply ResE.tmp rfl (by first | exact ArgE.own rfl | exact ArgE.nils _ | exact ArgE.same _) | apply ResE.cells rfl rfl (by (repeat (first | exact Cut.done _ | apply Cut.take | apply Cut.skip)); fail_if_success intros) (by (repeat (first | exact ToDs.nil | apply ToDs.cons (ToD.d _) | apply ToDs.cons (ToD.nils _) | apply ToDs.cons (ToD.own rfl))); fail_if_success intros) (by rfl) | apply ResE.cell rfl rfl rfl (by first | exact ArgE.own rfl | exact ArgE.nils _ | exact ArgE.same _))); fail_if_success intros, .cons rfl .nil, by rfl, rfl, _, rfl⟩))
        | nil =>
          have hml : ([] : List UInt8).length = 0 := rfl
          have hsz : I.sizeC l ≤ 1000000000 := by
            have := congrArg List.length henc
            rw [List.append_nil, I.ones_length, List.length_drop] at this
            omega
          have hll := Im.size_len l
          dsimp only
          generalize hres : (if Im.known ks l = true then Im.recvs (Im.recv t f) t n l ks (out.set n.toNat l) else none) = res
          (refine y_entere Tryd.func37 Tryd.ntmps37 Tryd.results37 fun w M E b0 => ?_; simp only [slots, List.map_cons, List.map_nil, List.zipIdx_cons, List.zipIdx_nil, Nat.reduceAdd])
          ((repeat' (first | (refine z_box (d := 4) 4 ?_) | (refine z_makeBox (d := 63) 63 4 ?_) | (refine z_append0 (d := 112) 112 ?_) | (refine yyp ?_; (try refine s_bu ?_ ?_ <;> (intro hb; try simp only [decide_eq_true_eq, decide_eq_false_iff_not] at hb))) | (refine yy ?_) | (refine yy2 ?_ ?_ <;> (intro hcmp; try simp only [cmp] at hcmp)) | (refine y_call (hc := (hB)) ?_) | (refine y_call (hc := (hget')) ?_) | (refine y_call (hc := (hC)) ?_) | (refine z_append (fun kv => ?_)) | (refine z_append_suf (fun sx sp kv hsx hsp hsl => ?_)) | (refine z_nil [0, 1, 2, 3, 4, 8, 9, 10, 11, 12, 13, 15, 16, 17, 18, 19, 20, 36, 52, 67, 75, 87, 100, 117, 137] ?_) | (refine tc_seq fun K hK => ?_) | (refine z_draw (id := 2) [] (lin [0, 4, 8, 12, 16, 20, 24, 28, 32, 36, 44, 41, 49, 52, 56]) ?_) | (refine z_draw (id := 22) [11, 13] (lin [0, 4, 8, 12, 16, 24, 28, 32, 36, 21, 41, 47, 48, 55]) ?_) | (refine z_draw (id := 26) [] (lin [8, 12, 16, 20, 32, 36, 40, 44, 60, 1, 5, 25, 49, 52, 57, 30, 66, 68]) ?_) | (apply_assumption -exfalso -symm))); all_goals (try refine unhalt ?_))
          rotate_left
          · exfalso
            exact absurd hbs (by assumption)
          refine tc_nilbox 63 630 0 (e := 5) (sz := 1) rfl rfl rfl ?_
          refine tc_nilbox 63 631 1 (e := 5) (sz := 1) rfl rfl rfl ?_
          refine tc_nilbox 63 632 2 (e := 5) (sz := 1) rfl rfl rfl ?_
          refine tc_nilbox 63 633 3 (e := 5) (sz := 1) rfl rfl rfl ?_
          refine y_famx (ι := Nat × Nat × Nat × Nat × Nat) [8, 16, 17, 18, 19, 64, 65, 66, 67, 68, 69, 70, 71, 72, 73, 74, 75, 76, 77, 78, 79, 80, 81, 82, 83, 84, 85, 86, 87, 88, 89, 90, 91, 92, 93, 94, 95, 96, 97, 98, 99, 100, 101, 102, 103, 104, 105, 106, 107, 108, 109, 110, 111, 112, 113] [63, 630, 631, 632, 633] (fun x => [(16, .d (.int .i64 x.1))]) (fun x => [(63, .box [.own 630 x.2.1, .own 631 x.2.2.1, .own 632 x.2.2.2.1, .own 633 x.2.2.2.2]), (630, .row 5 1 true ((Im.got (l.take x.1) 0).map dByte) x.2.1), (631, .row 5 1 true ((Im.got (l.take x.1) 1).map dByte) x.2.2.1), (632, .row 5 1 true ((Im.got (l.take x.1) 2).map dByte) x.2.2.2.1), (633, .row 5 1 true ((Im.got (l.take x.1) 3).map dByte) x.2.2.2.2)])
            (fun x => x.1 ≤ l.length ∧ Im.known ks (l.take x.1) = true) (fun x => l.length - x.1) (0, 0, 0, 0, 0) ⟨by simp, rfl⟩  fun ⟨k, v0, v1, v2, v3⟩ ⟨hkl1, hkn⟩ => ?_
          dsimp only [List.cons_append, List.nil_append] at hkl1 hkn ⊢
          rcases Nat.lt_or_ge k l.length with hkl2 | hkl2
          · obtain ⟨hm1, hw1⟩ := hall _ (List.getElem_mem hkl2)
            have hgl := fun i => Im.got_take l i k hkl2
            have hgb := fun i => Nat.le_trans (Im.got_len (l.take k) i) (I.sizeC_take l k)
            have hgb0 := hgb 0
            have hgb1 := hgb 1
            have hgb2 := hgb 2
            have hgb3 := hgb 3
            have hbsl : l[k].b.length ≤ 1000000000 := Nat.le_trans (Im.b_le (List.getElem_mem hkl2)) hsz
            by_cases hk2 : l[k].k = 2
            · obtain ⟨j, hj4, hc⟩ := Im.fwd_shape hm1 hw1 hk2
              have hg0 := hgl 0
              have hg1 := hgl 1
              have hg2 := hgl 2
              have hg3 := hgl 3
              rw [hc, Im.fwd_lnk] at hg0 hg1 hg2 hg3
              generalize l[k].b = bs at *
              have hget1 : (l.map dCmd)[k]? = some (.agg [.int .u8 2, .int .i32 (-2147483648 + 4 * (j : Int)), .int .i32 0, .list 1 (bs.map dByte)]) := by rw [List.getElem?_map, List.getElem?_eq_getElem hkl2, hc]; rfl
              ((repeat' (first | (refine z_box (d := 4) 4 ?_) | (refine z_make (d := 63) 63 ?_) | (refine z_append0 (d := 112) 112 ?_) | (refine yyp ?_; (try refine s_bu ?_ ?_ <;> (intro hb; try simp only [decide_eq_true_eq, decide_eq_false_iff_not] at hb))) | (refine yy ?_) | (refine yy2 ?_ ?_ <;> (intro hcmp; try simp only [cmp] at hcmp)) | (refine z_append (fun kv => ?_)) | (refine z_append_suf (fun sx sp kv hsx hsp hsl => ?_)) | (refine z_nil [0, 1, 2, 3, 4, 8, 9, 10, 11, 12, 13, 15, 16, 17, 18, 19, 20, 36, 52, 67, 75, 87, 100, 117, 137] ?_) | (refine tc_seq fun K hK => ?_) | (refine z_draw (id := 2) [] (lin [0, 4, 8, 12, 16, 20, 24, 28, 32, 36, 44, 41, 49, 52, 56]) ?_) | (refine z_draw (id := 22) [11, 13] (lin [0, 4, 8, 12, 16, 24, 28, 32, 36, 21, 41, 47, 48, 55]) ?_) | (refine z_draw (id := 26) [] (lin [8, 12, 16, 20, 32, 36, 40, 44, 60, 1, 5, 25, 49, 52, 57, 30, 66, 68]) ?_) | (apply_assumption -exfalso -symm))); all_goals (try refine unhalt ?_))
              rw [show (-2147483648 + 4 * (j : Int) - -2147483648) / 4 = (j : Int) by omega]
              refine y_famx (ι := Nat × Bool) [18, 19, 84, 85, 86, 87, 88, 89, 90, 91, 92, 93, 94, 95, 96, 97, 98] [] (fun y => [(18, .d (.bool y.2)), (19, .d (.int .i64 y.1))]) (fun _ => [])
                (fun y => y.1 ≤ ks.length ∧ y.2 = (ks.take y.1).any fun k => ((j : Nat) : Int) == ((k : Nat) : Int)) (fun y => ks.length - y.1) (0, false) ⟨by simp, by simp⟩  fun ⟨y, z⟩ ⟨hy, hz⟩ => ?_
              dsimp only [List.cons_append, List.nil_append] at hy hz ⊢
              rcases Nat.lt_or_ge y ks.length with hyl | hyl
              · have hzs : (ks.take (y + 1)).any (fun k => ((j : Nat) : Int) == ((k : Nat) : Int)) = (z || ((j : Nat) : Int) == ((ks[y] : Nat) : Int)) := by rw [← get_take _ hyl, List.any_append, ← hz]; simp
                cases z
                all_goals ((repeat' (first | (refine z_box (d := 4) 4 ?_) | (refine z_make (d := 63) 63 ?_) | (refine z_append0 (d := 112) 112 ?_) | (refine yyp ?_; (try refine s_bu ?_ ?_ <;> (intro hb; try simp only [decide_eq_true_eq, decide_eq_false_iff_not] at hb))) | (refine yy ?_) | (refine yy2 ?_ ?_ <;> (intro hcmp; try simp only [cmp] at hcmp)) | (refine z_append (fun kv => ?_)) | (refine z_append_suf (fun sx sp kv hsx hsp hsl => ?_)) | (refine z_nil [0, 1, 2, 3, 4, 8, 9, 10, 11, 12, 13, 15, 16, 17, 18, 19, 20, 36, 52, 67, 75, 87, 100, 117, 137] ?_) | (refine tc_seq fun K hK => ?_) | (refine z_draw (id := 2) [] (lin [0, 4, 8, 12, 16, 20, 24, 28, 32, 36, 44, 41, 49, 52, 56]) ?_) | (refine z_draw (id := 22) [11, 13] (lin [0, 4, 8, 12, 16, 24, 28, 32, 36, 21, 41, 47, 48, 55]) ?_) | (refine z_draw (id := 26) [] (lin [8, 12, 16, 20, 32, 36, 40, 44, 60, 1, 5, 25, 49, 52, 57, 30, 66, 68]) ?_) | (apply_assumption -exfalso -symm))); all_goals (try refine unhalt ?_))
                · refine ⟨(y + 1, true), ⟨by dsimp only; omega, ?_⟩, by dsimp only; omega, y_wk⟩
                  dsimp only
                  rw [hzs]
                  have : (((j : Nat) : Int) == ((ks[y] : Nat) : Int)) = true := by simp; omega
                  rw [this]; rfl
                · refine ⟨(y + 1, false), ⟨by dsimp only; omega, ?_⟩, by dsimp only; omega, y_wk⟩
                  dsimp only
                  rw [hzs]
                  have : (((j : Nat) : Int) == ((ks[y] : Nat) : Int)) = false := by simp; omega
                  rw [this]; rfl
                · refine ⟨(y + 1, true), ⟨by dsimp only; omega, ?_⟩, by dsimp only; omega, y_wk⟩
                  dsimp only
                  rw [hzs]; rfl
              have hbb : z = ks.any fun k => ((j : Nat) : Int) == ((k : Nat) : Int) := by rw [hz, List.take_of_length_le hyl]
              cases z
              · ((repeat' (first | (refine z_box (d := 4) 4 ?_) | (refine z_make (d := 63) 63 ?_) | (refine z_append0 (d := 112) 112 ?_) | (refine yyp ?_; (try refine s_bu ?_ ?_ <;> (intro hb; try simp only [decide_eq_true_eq, decide_eq_false_iff_not] at hb))) | (refine yy ?_) | (refine yy2 ?_ ?_ <;> (intro hcmp; try simp only [cmp] at hcmp)) | (refine z_append (fun kv => ?_)) | (refine z_append_suf (fun sx sp kv hsx hsp hsl => ?_)) | (refine z_nil [0, 1, 2, 3, 4, 8, 9, 10, 11, 12, 13, 15, 16, 17, 18, 19, 20, 36, 52, 67, 75, 87, 100, 117, 137] ?_) | (refine tc_seq fun K hK => ?_) | (refine z_draw (id := 2) [] (lin [0, 4, 8, 12, 16, 20, 24, 28, 32, 36, 44, 41, 49, 52, 56]) ?_) | (refine z_draw (id := 22) [11, 13] (lin [0, 4, 8, 12, 16, 24, 28, 32, 36, 21, 41, 47, 48, 55]) ?_) | (refine z_draw (id := 26) [] (lin [8, 12, 16, 20, 32, 36, 40, 44, 60, 1, 5, 25, 49, 52, 57, 30, 66, 68]) ?_) | (apply_assumption -exfalso -symm))); all_goals (try refine unhalt ?_))
                obtain rfl : res = none := by
                  rw [← hres, if_neg (fun h => by
                    have h2 := known_take ks l k hkl2
                    rw [hc, Im.fwd_lnk, ← hbb, known_all h, known_all h] at h2
                    simp at h2)]
                (refine tc_ret (EndsE.mk (.inl rfl) ⟨_, [(950, .row 44 1 false _ 0)], by (repeat (first | exact ResE.nil | apply ResE.tmp rfl (by first | exact ArgE.own rfl | exact ArgE.nils _ | exact ArgE.same _) | apply ResE.cells rfl rfl (by (repeat (first | exact Cut.done _ | apply Cut.take | apply Cut.skip)); fail_if_success intros) (by (repeat (first | exact ToDs.nil | apply ToDs.cons (ToD.d _) | apply ToDs.cons (ToD.nils _) | apply ToDs.cons (ToD.own rfl))); fail_if_success intros) (by rfl) | apply ResE.cell rfl rfl rfl (by first | exact ArgE.own rfl | exact ArgE.nils _ | exact ArgE.same _))); fail_if_success intros, .cons rfl .nil, by rfl, rfl, _, rfl⟩))
              · have hkx : Im.known ks (l.take (k + 1)) = true := by
                  rw [known_take _ _ _ hkl2, hkn, hc, Im.fwd_lnk, ← hbb]
                  rfl
                ((repeat' (first | (refine z_box (d := 4) 4 ?_) | (refine z_make (d := 63) 63 ?_) | (refine z_append0 (d := 112) 112 ?_) | (refine tc_at 22 ?_; refine halt ?_) | (refine yyp ?_; (try refine s_bu ?_ ?_ <;> (intro hb; try simp only [decide_eq_true_eq, decide_eq_false_iff_not] at hb))) | (refine yy ?_) | (refine yy2 ?_ ?_ <;> (intro hcmp; try simp only [cmp] at hcmp)) | (refine z_append (fun kv => ?_)) | (refine z_append_suf (fun sx sp kv hsx hsp hsl => ?_)) | (refine z_nil [0, 1, 2, 3, 4, 8, 9, 10, 11, 12, 13, 15, 16, 17, 18, 19, 20, 36, 52, 67, 75, 87, 100, 117, 137] ?_) | (refine tc_seq fun K hK => ?_) | (refine z_draw (id := 2) [] (lin [0, 4, 8, 12, 16, 20, 24, 28, 32, 36, 44, 41, 49, 52, 56]) ?_) | (refine z_draw (id := 26) [] (lin [8, 12, 16, 20, 32, 36, 40, 44, 60, 1, 5, 25, 49, 52, 57, 30, 66, 68]) ?_) | (apply_assumption -exfalso -symm))); all_goals (try refine unhalt ?_))
                rcases (by omega : j = 0 ∨ j = 1 ∨ j = 2 ∨ j = 3) with rfl | rfl | rfl | rfl <;> simp at hg0 hg1 hg2 hg3 <;> simp only [← List.map_append] at *
                · as_aux_lemma =>
                    ((repeat' (first | (refine z_box (d := 4) 4 ?_) | (refine z_make (d := 63) 63 ?_) | (refine z_append0 (d := 112) 112 ?_) | (refine yyp ?_; (try refine s_bu ?_ ?_ <;> (intro hb; try simp only [decide_eq_true_eq, decide_eq_false_iff_not] at hb))) | (refine yy ?_) | (refine yy2 ?_ ?_ <;> (intro hcmp; try simp only [cmp] at hcmp)) | (refine z_append (fun kv => ?_)) | (refine z_append_suf (fun sx sp kv hsx hsp hsl => ?_)) | (refine z_nil [0, 1, 2, 3, 4, 8, 9, 10, 11, 12, 13, 15, 16, 17, 18, 19, 20, 36, 52, 67, 75, 87, 100, 117, 137] ?_) | (refine tc_seq fun K hK => ?_) | (refine z_draw (id := 2) [] (lin [0, 4, 8, 12, 16, 20, 24, 28, 32, 36, 44, 41, 49, 52, 56]) ?_) | (refine z_draw (id := 22) [11, 13] (lin [0, 4, 8, 12, 16, 24, 28, 32, 36, 21, 41, 47, 48, 55]) ?_) | (refine z_draw (id := 26) [] (lin [8, 12, 16, 20, 32, 36, 40, 44, 60, 1, 5, 25, 49, 52, 57, 30, 66, 68]) ?_) | (apply_assumption -exfalso -symm))); all_goals (try refine unhalt ?_))
                    refine ⟨(k + 1, kv, v1, v2, v3), ⟨by dsimp only; omega, ?_⟩, by dsimp only; omega, ?_⟩
                    · exact hkx
                    · dsimp only
                      rw [hg0, hg1, hg2, hg3]
                      simp only [List.map_append]
                      exact y_wk
                · as_aux_lemma =>
                    ((repeat' (first | (refine z_box (d := 4) 4 ?_) | (refine z_make (d := 63) 63 ?_) | (refine z_append0 (d := 112) 112 ?_) | (refine yyp ?_; (try refine s_bu ?_ ?_ <;> (intro hb; try simp only [decide_eq_true_eq, decide_eq_false_iff_not] at hb))) | (refine yy ?_) | (refine yy2 ?_ ?_ <;> (intro hcmp; try simp only [cmp] at hcmp)) | (refine z_append (fun kv => ?_)) | (refine z_append_suf (fun sx sp kv hsx hsp hsl => ?_)) | (refine z_nil [0, 1, 2, 3, 4, 8, 9, 10, 11, 12, 13, 15, 16, 17, 18, 19, 20, 36, 52, 67, 75, 87, 100, 117, 137] ?_) | (refine tc_seq fun K hK => ?_) | (refine z_draw (id := 2) [] (lin [0, 4, 8, 12, 16, 20, 24, 28, 32, 36, 44, 41, 49, 52, 56]) ?_) | (refine z_draw (id := 22) [11, 13] (lin [0, 4, 8, 12, 16, 24, 28, 32, 36, 21, 41, 47, 48, 55]) ?_) | (refine z_draw (id := 26) [] (lin [8, 12, 16, 20, 32, 36, 40, 44, 60, 1, 5, 25, 49, 52, 57, 30, 66, 68]) ?_) | (apply_assumption -exfalso -symm))); all_goals (try refine unhalt ?_))
                    refine ⟨(k + 1, v0, kv, v2, v3), ⟨by dsimp only; omega, ?_⟩, by dsimp only; omega, ?_⟩
                    · exact hkx
                    · dsimp only
                      rw [hg0, hg1, hg2, hg3]
                      simp only [List.map_append]
                      exact y_wk
                · as_aux_lemma =>
                    ((repeat' (first | (refine z_box (d := 4) 4 ?_) | (refine z_make (d := 63) 63 ?_) | (refine z_append0 (d := 112) 112 ?_) | (refine yyp ?_; (try refine s_bu ?_ ?_ <;> (intro hb; try simp only [decide_eq_true_eq, decide_eq_false_iff_not] at hb))) | (refine yy ?_) | (refine yy2 ?_ ?_ <;> (intro hcmp; try simp only [cmp] at hcmp)) | (refine z_append (fun kv => ?_)) | (refine z_append_suf (fun sx sp kv hsx hsp hsl => ?_)) | (refine z_nil [0, 1, 2, 3, 4, 8, 9, 10, 11, 12, 13, 15, 16, 17, 18, 19, 20, 36, 52, 67, 75, 87, 100, 117, 137] ?_) | (refine tc_seq fun K hK => ?_) | (refine z_draw (id := 2) [] (lin [0, 4, 8, 12, 16, 20, 24, 28, 32, 36, 44, 41, 49, 52, 56]) ?_) | (refine z_draw (id := 22) [11, 13] (lin [0, 4, 8, 12, 16, 24, 28, 32, 36, 21, 41, 47, 48, 55]) ?_) | (refine z_draw (id := 26) [] (lin [8, 12, 16, 20, 32, 36, 40, 44, 60, 1, 5, 25, 49, 52, 57, 30, 66, 68]) ?_) | (apply_assumption -exfalso -symm))); all_goals (try refine unhalt ?_))
                    refine ⟨(k + 1, v0, v1, kv, v3), ⟨by dsimp only; omega, ?_⟩, by dsimp only; omega, ?_⟩
                    · exact hkx
                    · dsimp only
                      rw [hg0, hg1, hg2, hg3]
                      simp only [List.map_append]
                      exact y_wk
                · as_aux_lemma =>
                    ((repeat' (first | (refine z_box (d := 4) 4 ?_) | (refine z_make (d := 63) 63 ?_) | (refine z_append0 (d := 112) 112 ?_) | (refine yyp ?_; (try refine s_bu ?_ ?_ <;> (intro hb; try simp only [decide_eq_true_eq, decide_eq_false_iff_not] at hb))) | (refine yy ?_) | (refine yy2 ?_ ?_ <;> (intro hcmp; try simp only [cmp] at hcmp)) | (refine z_append (fun kv => ?_)) | (refine z_append_suf (fun sx sp kv hsx hsp hsl => ?_)) | (refine z_nil [0, 1, 2, 3, 4, 8, 9, 10, 11, 12, 13, 15, 16, 17, 18, 19, 20, 36, 52, 67, 75, 87, 100, 117, 137] ?_) | (refine tc_seq fun K hK => ?_) | (refine z_draw (id := 2) [] (lin [0, 4, 8, 12, 16, 20, 24, 28, 32, 36, 44, 41, 49, 52, 56]) ?_) | (refine z_draw (id := 22) [11, 13] (lin [0, 4, 8, 12, 16, 24, 28, 32, 36, 21, 41, 47, 48, 55]) ?_) | (refine z_draw (id := 26) [] (lin [8, 12, 16, 20, 32, 36, 40, 44, 60, 1, 5, 25, 49, 52, 57, 30, 66, 68]) ?_) | (apply_assumption -exfalso -symm))); all_goals (try refine unhalt ?_))
                    refine ⟨(k + 1, v0, v1, v2, kv), ⟨by dsimp only; omega, ?_⟩, by dsimp only; omega, ?_⟩
                    · exact hkx
                    · dsimp only
                      rw [hg0, hg1, hg2, hg3]
                      simp only [List.map_append]
                      exact y_wk
            · have hg := fun i => Im.got_take l i k hkl2
              have hkk : (l[k].k == 2) = false := by simpa using hk2
              simp only [hkk, Bool.false_and, if_neg Bool.false_ne_true] at hg
              ((repeat' (first | (refine z_box (d := 4) 4 ?_) | (refine z_make (d := 63) 63 ?_) | (refine z_append0 (d := 112) 112 ?_) | (refine yyp ?_; (try refine s_bu ?_ ?_ <;> (intro hb; try simp only [decide_eq_true_eq, decide_eq_false_iff_not] at hb))) | (refine yy ?_) | (refine yy2 ?_ ?_ <;> (intro hcmp; try simp only [cmp] at hcmp)) | (refine z_append (fun kv => ?_)) | (refine z_append_suf (fun sx sp kv hsx hsp hsl => ?_)) | (refine z_nil [0, 1, 2, 3, 4, 8, 9, 10, 11, 12, 13, 15, 16, 17, 18, 19, 20, 36, 52, 67, 75, 87, 100, 117, 137] ?_) | (refine tc_seq fun K hK => ?_) | (refine z_draw (id := 2) [] (lin [0, 4, 8, 12, 16, 20, 24, 28, 32, 36, 44, 41, 49, 52, 56]) ?_) | (refine z_draw (id := 22) [11, 13] (lin [0, 4, 8, 12, 16, 24, 28, 32, 36, 21, 41, 47, 48, 55]) ?_) | (refine z_draw (id := 26) [] (lin [8, 12, 16, 20, 32, 36, 40, 44, 60, 1, 5, 25, 49, 52, 57, 30, 66, 68]) ?_) | (apply_assumption -exfalso -symm))); all_goals (try refine unhalt ?_))
              refine ⟨(k + 1, v0, v1, v2, v3), ⟨by dsimp only; omega, ?_⟩, by dsimp only; omega, ?_⟩
              · dsimp only
                rw [known_take _ _ _ hkl2, hkn, hkk]
                rfl
              · dsimp only
                rw [hg 0, hg 1, hg 2, hg 3]
                exact y_wk
          · have hkl3 : k = l.length := by omega
            subst hkl3
            rw [List.take_length] at hkn ⊢
            ((repeat' (first | (refine z_box (d := 4) 4 ?_) | (refine z_make (d := 63) 63 ?_) | (refine z_append0 (d := 112) 112 ?_) | (refine yyp ?_; (try refine s_bu ?_ ?_ <;> (intro hb; try simp only [decide_eq_true_eq, decide_eq_false_iff_not] at hb))) | (refine yy ?_) | (refine yy2 ?_ ?_ <;> (intro hcmp; try simp only [cmp] at hcmp)) | (refine z_append (fun kv => ?_)) | (refine z_append_suf (fun sx sp kv hsx hsp hsl => ?_)) | (refine z_nil [0, 1, 2, 3, 4, 8, 9, 10, 11, 12, 13, 15, 16, 17, 18, 19, 20, 36, 52, 67, 75, 87, 100, 117, 137] ?_) | (refine tc_seq fun K hK => ?_) | (refine z_draw (id := 2) [] (lin [0, 4, 8, 12, 16, 20, 24, 28, 32, 36, 44, 41, 49, 52, 56]) ?_) | (refine z_draw (id := 22) [11, 13] (lin [0, 4, 8, 12, 16, 24, 28, 32, 36, 21, 41, 47, 48, 55]) ?_) | (refine z_draw (id := 26) [] (lin [8, 12, 16, 20, 32, 36, 40, 44, 60, 1, 5, 25, 49, 52, 57, 30, 66, 68]) ?_) | (apply_assumption -exfalso -symm))); all_goals (try refine unhalt ?_))
            refine y_famx (ι := Nat × List (List I.Cmd)) [8, 20, 114, 115, 116, 117, 118, 119, 120, 121, 122, 123, 124, 125, 126, 127, 128, 129, 130, 131, 132, 133, 134, 135, 136, 137] [950] (fun x => [(20, .d (.int .i64 x.1))]) (fun x => [(950, .row 44 1 false (x.2.map dOut) 0)])
              (fun x => x.1 ≤ ks.length ∧ (x.2.length : Int) = t.nodes ∧ Im.recvs (Im.recv t f) t n l ks (out.set n.toNat l) = Im.recvs (Im.recv t f) t n l (ks.drop x.1) x.2) (fun x => ks.length - x.1) (0, out.set n.toNat l) (h0 := ?_) ⟨by simp, by simpa using hout, rfl⟩ fun ⟨j, o1⟩ ⟨hj, ho1, hrr⟩ => ?_
            rotate_left
            · dsimp only [List.cons_append, List.nil_append]
              rw [show (out.set n.toNat l).map dOut = (out.map dOut).set n.toNat (D.list 4 (l.map dCmd)) by rw [List.map_set]; rfl]
              exact y_wk
            dsimp only [List.cons_append, List.nil_append] at hj ho1 hrr ⊢
            rcases Nat.lt_or_ge j ks.length with hjl | hjl
            · have hkm := List.getElem_mem hjl
              have hq4 := hk4 _ hkm
              have hPk := hP _ hkm
              have hE := ih' _ hkm (Im.got l ks[j]) o1 (Nat.le_trans (Im.got_len l _) hsz) ho1
              obtain ⟨q, hq⟩ : ∃ q, ks[j] = q := ⟨_, rfl⟩
              rw [hq] at hPk hE hq4
              rcases (by omega : q = 0 ∨ q = 1 ∨ q = 2 ∨ q = 3) with rfl | rfl | rfl | rfl
              · as_aux_lemma =>
                  have hgj : (ks.map dInt)[j]? = some (.int .i64 0) := by rw [List.getElem?_map, List.getElem?_eq_getElem hjl, hq]; rfl
                  cases hrec : Im.recv t f (Im.child t n 0) (Im.got l 0) o1 with
                  | none =>
                    rw [hrec] at hE
                    ((repeat' (first | (refine z_box (d := 4) 4 ?_) | (refine z_make (d := 63) 63 ?_) | (refine z_append0 (d := 112) 112 ?_) | (refine tr_at 136 ?_; refine z_callE (hc := hE) ?_; rintro _ _ ⟨rfl, o', rfl⟩; refine ⟨rfl, ?_⟩) | (refine yyp ?_; (try refine s_bu ?_ ?_ <;> (intro hb; try simp only [decide_eq_true_eq, decide_eq_false_iff_not] at hb))) | (refine yy ?_) | (refine yy2 ?_ ?_ <;> (intro hcmp; try simp only [cmp] at hcmp)) | (refine z_append (fun kv => ?_)) | (refine z_append_suf (fun sx sp kv hsx hsp hsl => ?_)) | (refine y_call (hc := (hPk)) ?_) | (refine z_nil [0, 1, 2, 3, 4, 8, 9, 10, 11, 12, 13, 15, 16, 17, 18, 19, 20, 36, 52, 67, 75, 87, 100, 117, 137] ?_) | (refine tc_seq fun K hK => ?_) | (refine z_draw (id := 2) [] (lin [0, 4, 8, 12, 16, 20, 24, 28, 32, 36, 44, 41, 49, 52, 56]) ?_) | (refine z_draw (id := 22) [11, 13] (lin [0, 4, 8, 12, 16, 24, 28, 32, 36, 21, 41, 47, 48, 55]) ?_) | (refine z_draw (id := 26) [16] (lin [8, 12, 16, 20, 32, 36, 40, 44, 60, 1, 5, 25, 49, 52, 57, 30, 67, 68]) ?_) | (apply_assumption -exfalso -symm))); all_goals (try refine unhalt ?_))
                    obtain rfl : res = none := by rw [← hres, if_pos hkn, hrr, List.drop_eq_getElem_cons hjl, hq]; unfold Im.recvs; rw [hrec]
                    (refine tc_ret (EndsE.mk (.inl rfl) ⟨_, [(950, .row 44 1 false _ 0)], by (repeat (first | exact ResE.nil | apply ResE.tmp rfl (by first | exact ArgE.own rfl | exact ArgE.nils _ | exact ArgE.same _) | apply ResE.cells rfl rfl (by (repeat (first | exact Cut.done _ | apply Cut.take | apply Cut.skip)); fail_if_success intros) (by (repeat (first | exact ToDs.nil | apply ToDs.cons (ToD.d _) | apply ToDs.cons (ToD.nils _) | apply ToDs.cons (ToD.own rfl))); fail_if_success intros) (by rfl) | apply ResE.cell rfl rfl rfl (by first | exact ArgE.own rfl | exact ArgE.nils _ | exact ArgE.same _))); fail_if_success intros, .cons rfl .nil, by rfl, rfl, _, rfl⟩))
                  | some o2 =>
                    rw [hrec] at hE
                    ((repeat' (first | (refine z_box (d := 4) 4 ?_) | (refine z_make (d := 63) 63 ?_) | (refine z_append0 (d := 112) 112 ?_) | (refine tr_at 136 ?_; refine y_callE (hc := hE) ?_; (try refine s_bu ?_ ?_ <;> (intro hb; try simp only [decide_eq_true_eq, decide_eq_false_iff_not] at hb))) | (refine yyp ?_; (try refine s_bu ?_ ?_ <;> (intro hb; try simp only [decide_eq_true_eq, decide_eq_false_iff_not] at hb))) | (refine yy ?_) | (refine yy2 ?_ ?_ <;> (intro hcmp; try simp only [cmp] at hcmp)) | (refine z_append (fun kv => ?_)) | (refine z_append_suf (fun sx sp kv hsx hsp hsl => ?_)) | (refine y_call (hc := (hPk)) ?_) | (refine z_nil [0, 1, 2, 3, 4, 8, 9, 10, 11, 12, 13, 15, 16, 17, 18, 19, 20, 36, 52, 67, 75, 87, 100, 117, 137] ?_) | (refine tc_seq fun K hK => ?_) | (refine z_draw (id := 2) [] (lin [0, 4, 8, 12, 16, 20, 24, 28, 32, 36, 44, 41, 49, 52, 56]) ?_) | (refine z_draw (id := 22) [11, 13] (lin [0, 4, 8, 12, 16, 24, 28, 32, 36, 21, 41, 47, 48, 55]) ?_) | (refine z_draw (id := 26) [16] (lin [8, 12, 16, 20, 32, 36, 40, 44, 60, 1, 5, 25, 49, 52, 57, 30, 67, 68]) ?_) | (apply_assumption -exfalso -symm))); all_goals (try refine unhalt ?_))
                    refine ⟨(j + 1, o2), ⟨by dsimp only; omega, ?_, ?_⟩, by dsimp only; omega, y_wk⟩
                    · dsimp only
                      rw [← ho1]
                      rw [Im.recv_len _ _ _ _ _ hrec]
                    · dsimp only
                      rw [hrr, List.drop_eq_getElem_cons hjl, hq]
                      conv => lhs; unfold Im.recvs
                      rw [hrec]
              · as_aux_lemma =>
                  have hgj : (ks.map dInt)[j]? = some (.int .i64 1) := by rw [List.getElem?_map, List.getElem?_eq_getElem hjl, hq]; rfl
                  cases hrec : Im.recv t f (Im.child t n 1) (Im.got l 1) o1 with
                  | none =>
                    rw [hrec] at hE
                    ((repeat' (first | (refine z_box (d := 4) 4 ?_) | (refine z_make (d := 63) 63 ?_) | (refine z_append0 (d := 112) 112 ?_) | (refine tr_at 136 ?_; refine z_callE (hc := hE) ?_; rintro _ _ ⟨rfl, o', rfl⟩; refine ⟨rfl, ?_⟩) | (refine yyp ?_; (try refine s_bu ?_ ?_ <;> (intro hb; try simp only [decide_eq_true_eq, decide_eq_false_iff_not] at hb))) | (refine yy ?_) | (refine yy2 ?_ ?_ <;> (intro hcmp; try simp only [cmp] at hcmp)) | (refine z_append (fun kv => ?_)) | (refine z_append_suf (fun sx sp kv hsx hsp hsl => ?_)) | (refine y_call (hc := (hPk)) ?_) | (refine z_nil [0, 1, 2, 3, 4, 8, 9, 10, 11, 12, 13, 15, 16, 17, 18, 19, 20, 36, 52, 67, 75, 87, 100, 117, 137] ?_) | (refine tc_seq fun K hK => ?_) | (refine z_draw (id := 2) [] (lin [0, 4, 8, 12, 16, 20, 24, 28, 32, 36, 44, 41, 49, 52, 56]) ?_) | (refine z_draw (id := 22) [11, 13] (lin [0, 4, 8, 12, 16, 24, 28, 32, 36, 21, 41, 47, 48, 55]) ?_) | (refine z_draw (id := 26) [16] (lin [8, 12, 16, 20, 32, 36, 40, 44, 60, 1, 5, 25, 49, 52, 57, 30, 67, 68]) ?_) | (apply_assumption -exfalso -symm))); all_goals (try refine unhalt ?_))
                    obtain rfl : res = none := by rw [← hres, if_pos hkn, hrr, List.drop_eq_getElem_cons hjl, hq]; unfold Im.recvs; rw [hrec]
                    (refine tc_ret (EndsE.mk (.inl rfl) ⟨_, [(950, .row 44 1 false _ 0)], by (repeat (first | exact ResE.nil | apply ResE.tmp rfl (by first | exact ArgE.own rfl | exact ArgE.nils _ | exact ArgE.same _) | apply ResE.cells rfl rfl (by (repeat (first | exact Cut.done _ | apply Cut.take | apply Cut.skip)); fail_if_success intros) (by (repeat (first | exact ToDs.nil | apply ToDs.cons (ToD.d _) | apply ToDs.cons (ToD.nils _) | apply ToDs.cons (ToD.own rfl))); fail_if_success intros) (by rfl) | apply ResE.cell rfl rfl rfl (by first | exact ArgE.own rfl | exact ArgE.nils _ | exact ArgE.same _))); fail_if_success intros, .cons rfl .nil, by rfl, rfl, _, rfl⟩))
                  | some o2 =>
                    rw [hrec] at hE
                    ((repeat' (first | (refine z_box (d := 4) 4 ?_) | (refine z_make (d := 63) 63 ?_) | (refine z_append0 (d := 112) 112 ?_) | (refine tr_at 136 ?_; refine y_callE (hc := hE) ?_; (try refine s_bu ?_ ?_ <;> (intro hb; try simp only [decide_eq_true_eq, decide_eq_false_iff_not] at hb))) | (refine yyp ?_; (try refine s_bu ?_ ?_ <;> (intro hb; try simp only [decide_eq_true_eq, decide_eq_false_iff_not] at hb))) | (refine yy ?_) | (refine yy2 ?_ ?_ <;> (intro hcmp; try simp only [cmp] at hcmp)) | (refine z_append (fun kv => ?_)) | (refine z_append_suf (fun sx sp kv hsx hsp hsl => ?_)) | (refine y_call (hc := (hPk)) ?_) | (refine z_nil [0, 1, 2, 3, 4, 8, 9, 10, 11, 12, 13, 15, 16, 17, 18, 19, 20, 36, 52, 67, 75, 87, 100, 117, 137] ?_) | (refine tc_seq fun K hK => ?_) | (refine z_draw (id := 2) [] (lin [0, 4, 8, 12, 16, 20, 24, 28, 32, 36, 44, 41, 49, 52, 56]) ?_) | (refine z_draw (id := 22) [11, 13] (lin [0, 4, 8, 12, 16, 24, 28, 32, 36, 21, 41, 47, 48, 55]) ?_) | (refine z_draw (id := 26) [16] (lin [8, 12, 16, 20, 32, 36, 40, 44, 60, 1, 5, 25, 49, 52, 57, 30, 67, 68]) ?_) | (apply_assumption -exfalso -symm))); all_goals (try refine unhalt ?_))
                    refine ⟨(j + 1, o2), ⟨by dsimp only; omega, ?_, ?_⟩, by dsimp only; omega, y_wk⟩
                    · dsimp only
                      rw [← ho1]
                      rw [Im.recv_len _ _ _ _ _ hrec]
                    · dsimp only
                      rw [hrr, List.drop_eq_getElem_cons hjl, hq]
                      conv => lhs; unfold Im.recvs
                      rw [hrec]
              · as_aux_lemma =>
                  have hgj : (ks.map dInt)[j]? = some (.int .i64 2) := by rw [List.getElem?_map, List.getElem?_eq_getElem hjl, hq]; rfl
                  cases hrec : Im.recv t f (Im.child t n 2) (Im.got l 2) o1 with
                  | none =>
                    rw [hrec] at hE
                    ((repeat' (first | (refine z_box (d := 4) 4 ?_) | (refine z_make (d := 63) 63 ?_) | (refine z_append0 (d := 112) 112 ?_) | (refine tr_at 136 ?_; refine z_callE (hc := hE) ?_; rintro _ _ ⟨rfl, o', rfl⟩; refine ⟨rfl, ?_⟩) | (refine yyp ?_; (try refine s_bu ?_ ?_ <;> (intro hb; try simp only [decide_eq_true_eq, decide_eq_false_iff_not] at hb))) | (refine yy ?_) | (refine yy2 ?_ ?_ <;> (intro hcmp; try simp only [cmp] at hcmp)) | (refine z_append (fun kv => ?_)) | (refine z_append_suf (fun sx sp kv hsx hsp hsl => ?_)) | (refine y_call (hc := (hPk)) ?_) | (refine z_nil [0, 1, 2, 3, 4, 8, 9, 10, 11, 12, 13, 15, 16, 17, 18, 19, 20, 36, 52, 67, 75, 87, 100, 117, 137] ?_) | (refine tc_seq fun K hK => ?_) | (refine z_draw (id := 2) [] (lin [0, 4, 8, 12, 16, 20, 24, 28, 32, 36, 44, 41, 49, 52, 56]) ?_) | (refine z_draw (id := 22) [11, 13] (lin [0, 4, 8, 12, 16, 24, 28, 32, 36, 21, 41, 47, 48, 55]) ?_) | (refine z_draw (id := 26) [16] (lin [8, 12, 16, 20, 32, 36, 40, 44, 60, 1, 5, 25, 49, 52, 57, 30, 67, 68]) ?_) | (apply_assumption -exfalso -symm))); all_goals (try refine unhalt ?_))
                    obtain rfl : res = none := by rw [← hres, if_pos hkn, hrr, List.drop_eq_getElem_cons hjl, hq]; unfold Im.recvs; rw [hrec]
                    (refine tc_ret (EndsE.mk (.inl rfl) ⟨_, [(950, .row 44 1 false _ 0)], by (repeat (first | exact ResE.nil | apply ResE.tmp rfl (by first | exact ArgE.own rfl | exact ArgE.nils _ | exact ArgE.same _) | apply ResE.cells rfl rfl (by (repeat (first | exact Cut.done _ | apply Cut.take | apply Cut.skip)); fail_if_success intros) (by (repeat (first | exact ToDs.nil | apply ToDs.cons (ToD.d _) | apply ToDs.cons (ToD.nils _) | apply ToDs.cons (ToD.own rfl))); fail_if_success intros) (by rfl) | apply ResE.cell rfl rfl rfl (by first | exact ArgE.own rfl | exact ArgE.nils _ | exact ArgE.same _))); fail_if_success intros, .cons rfl .nil, by rfl, rfl, _, rfl⟩))
                  | some o2 =>
                    rw [hrec] at hE
                    ((repeat' (first | (refine z_box (d := 4) 4 ?_) | (refine z_make (d := 63) 63 ?_) | (refine z_append0 (d := 112) 112 ?_) | (refine tr_at 136 ?_; refine y_callE (hc := hE) ?_; (try refine s_bu ?_ ?_ <;> (intro hb; try simp only [decide_eq_true_eq, decide_eq_false_iff_not] at hb))) | (refine yyp ?_; (try refine s_bu ?_ ?_ <;> (intro hb; try simp only [decide_eq_true_eq, decide_eq_false_iff_not] at hb))) | (refine yy ?_) | (refine yy2 ?_ ?_ <;> (intro hcmp; try simp only [cmp] at hcmp)) | (refine z_append (fun kv => ?_)) | (refine z_append_suf (fun sx sp kv hsx hsp hsl => ?_)) | (refine y_call (hc := (hPk)) ?_) | (refine z_nil [0, 1, 2, 3, 4, 8, 9, 10, 11, 12, 13, 15, 16, 17, 18, 19, 20, 36, 52, 67, 75, 87, 100, 117, 137] ?_) | (refine tc_seq fun K hK => ?_) | (refine z_draw (id := 2) [] (lin [0, 4, 8, 12, 16, 20, 24, 28, 32, 36, 44, 41, 49, 52, 56]) ?_) | (refine z_draw (id := 22) [11, 13] (lin [0, 4, 8, 12, 16, 24, 28, 32, 36, 21, 41, 47, 48, 55]) ?_) | (refine z_draw (id := 26) [16] (lin [8, 12, 16, 20, 32, 36, 40, 44, 60, 1, 5, 25, 49, 52, 57, 30, 67, 68]) ?_) | (apply_assumption -exfalso -symm))); all_goals (try refine unhalt ?_))
                    refine ⟨(j + 1, o2), ⟨by dsimp only; omega, ?_, ?_⟩, by dsimp only; omega, y_wk⟩
                    · dsimp only
                      rw [← ho1]
                      rw [Im.recv_len _ _ _ _ _ hrec]
                    · dsimp only
                      rw [hrr, List.drop_eq_getElem_cons hjl, hq]
                      conv => lhs; unfold Im.recvs
                      rw [hrec]
              · as_aux_lemma =>
                  have hgj : (ks.map dInt)[j]? = some (.int .i64 3) := by rw [List.getElem?_map, List.getElem?_eq_getElem hjl, hq]; rfl
                  cases hrec : Im.recv t f (Im.child t n 3) (Im.got l 3) o1 with
                  | none =>
                    rw [hrec] at hE
                    ((repeat' (first | (refine z_box (d := 4) 4 ?_) | (refine z_make (d := 63) 63 ?_) | (refine z_append0 (d := 112) 112 ?_) | (refine tr_at 136 ?_; refine z_callE (hc := hE) ?_; rintro _ _ ⟨rfl, o', rfl⟩; refine ⟨rfl, ?_⟩) | (refine yyp ?_; (try refine s_bu ?_ ?_ <;> (intro hb; try simp only [decide_eq_true_eq, decide_eq_false_iff_not] at hb))) | (refine yy ?_) | (refine yy2 ?_ ?_ <;> (intro hcmp; try simp only [cmp] at hcmp)) | (refine z_append (fun kv => ?_)) | (refine z_append_suf (fun sx sp kv hsx hsp hsl => ?_)) | (refine y_call (hc := (hPk)) ?_) | (refine z_nil [0, 1, 2, 3, 4, 8, 9, 10, 11, 12, 13, 15, 16, 17, 18, 19, 20, 36, 52, 67, 75, 87, 100, 117, 137] ?_) | (refine tc_seq fun K hK => ?_) | (refine z_draw (id := 2) [] (lin [0, 4, 8, 12, 16, 20, 24, 28, 32, 36, 44, 41, 49, 52, 56]) ?_) | (refine z_draw (id := 22) [11, 13] (lin [0, 4, 8, 12, 16, 24, 28, 32, 36, 21, 41, 47, 48, 55]) ?_) | (refine z_draw (id := 26) [16] (lin [8, 12, 16, 20, 32, 36, 40, 44, 60, 1, 5, 25, 49, 52, 57, 30, 67, 68]) ?_) | (apply_assumption -exfalso -symm))); all_goals (try refine unhalt ?_))
                    obtain rfl : res = none := by rw [← hres, if_pos hkn, hrr, List.drop_eq_getElem_cons hjl, hq]; unfold Im.recvs; rw [hrec]
                    (refine tc_ret (EndsE.mk (.inl rfl) ⟨_, [(950, .row 44 1 false _ 0)], by (repeat (first | exact ResE.nil | apply ResE.tmp rfl (by first | exact ArgE.own rfl | exact ArgE.nils _ | exact ArgE.same _) | apply ResE.cells rfl rfl (by (repeat (first | exact Cut.done _ | apply Cut.take | apply Cut.skip)); fail_if_success intros) (by (repeat (first | exact ToDs.nil | apply ToDs.cons (ToD.d _) | apply ToDs.cons (ToD.nils _) | apply ToDs.cons (ToD.own rfl))); fail_if_success intros) (by rfl) | apply ResE.cell rfl rfl rfl (by first | exact ArgE.own rfl | exact ArgE.nils _ | exact ArgE.same _))); fail_if_success intros, .cons rfl .nil, by rfl, rfl, _, rfl⟩))
                  | some o2 =>
                    rw [hrec] at hE
                    ((repeat' (first | (refine z_box (d := 4) 4 ?_) | (refine z_make (d := 63) 63 ?_) | (refine z_append0 (d := 112) 112 ?_) | (refine tr_at 136 ?_; refine y_callE (hc := hE) ?_; (try refine s_bu ?_ ?_ <;> (intro hb; try simp only [decide_eq_true_eq, decide_eq_false_iff_not] at hb))) | (refine yyp ?_; (try refine s_bu ?_ ?_ <;> (intro hb; try simp only [decide_eq_true_eq, decide_eq_false_iff_not] at hb))) | (refine yy ?_) | (refine yy2 ?_ ?_ <;> (intro hcmp; try simp only [cmp] at hcmp)) | (refine z_append (fun kv => ?_)) | (refine z_append_suf (fun sx sp kv hsx hsp hsl => ?_)) | (refine y_call (hc := (hPk)) ?_) | (refine z_nil [0, 1, 2, 3, 4, 8, 9, 10, 11, 12, 13, 15, 16, 17, 18, 19, 20, 36, 52, 67, 75, 87, 100, 117, 137] ?_) | (refine tc_seq fun K hK => ?_) | (refine z_draw (id := 2) [] (lin [0, 4, 8, 12, 16, 20, 24, 28, 32, 36, 44, 41, 49, 52, 56]) ?_) | (refine z_draw (id := 22) [11, 13] (lin [0, 4, 8, 12, 16, 24, 28, 32, 36, 21, 41, 47, 48, 55]) ?_) | (refine z_draw (id := 26) [16] (lin [8, 12, 16, 20, 32, 36, 40, 44, 60, 1, 5, 25, 49, 52, 57, 30, 67, 68]) ?_) | (apply_assumption -exfalso -symm))); all_goals (try refine unhalt ?_))
                    refine ⟨(j + 1, o2), ⟨by dsimp only; omega, ?_, ?_⟩, by dsimp only; omega, y_wk⟩
                    · dsimp only
                      rw [← ho1]
                      rw [Im.recv_len _ _ _ _ _ hrec]
                    · dsimp only
                      rw [hrr, List.drop_eq_getElem_cons hjl, hq]
                      conv => lhs; unfold Im.recvs
                      rw [hrec]
            · have hjk : j = ks.length := by omega
              subst hjk
              obtain rfl : res = some o1 := by rw [← hres, if_pos hkn, hrr, List.drop_length]; rfl
              ((repeat' (first | (refine z_box (d := 4) 4 ?_) | (refine z_make (d := 63) 63 ?_) | (refine z_append0 (d := 112) 112 ?_) | (refine yyp ?_; (try refine s_bu ?_ ?_ <;> (intro hb; try simp only [decide_eq_true_eq, decide_eq_false_iff_not] at hb))) | (refine yy ?_) | (refine yy2 ?_ ?_ <;> (intro hcmp; try simp only [cmp] at hcmp)) | (refine z_append (fun kv => ?_)) | (refine z_append_suf (fun sx sp kv hsx hsp hsl => ?_)) | (refine z_nil [0, 1, 2, 3, 4, 8, 9, 10, 11, 12, 13, 15, 16, 17, 18, 19, 20, 36, 52, 67, 75, 87, 100, 117, 137] ?_) | (refine tc_seq fun K hK => ?_) | (refine z_draw (id := 2) [] (lin [0, 4, 8, 12, 16, 20, 24, 28, 32, 36, 44, 41, 49, 52, 56]) ?_) | (refine z_draw (id := 22) [11, 13] (lin [0, 4, 8, 12, 16, 24, 28, 32, 36, 21, 41, 47, 48, 55]) ?_) | (refine z_draw (id := 26) [] (lin [8, 12, 16, 20, 32, 36, 40, 44, 60, 1, 5, 25, 49, 52, 57, 30, 66, 68]) ?_) | (apply_assumption -exfalso -symm))); all_goals (try refine unhalt ?_))
              (refine tc_ret (y_rete ⟨?_, rfl⟩))
              rfl
    · rw [if_neg hpre]
      rw [← hbl] at hpre
      have hbs : ¬ (⟨(b.take I.bootB.length).toArray⟩ : ByteArray) = ⟨I.bootB.toArray⟩ := fun h => hpre (List.toArray_inj (ByteArray.mk.inj h))
      generalize I.bootB = boot at *
      (refine y_entere Tryd.func37 Tryd.ntmps37 Tryd.results37 fun w M E b0 => ?_; simp only [slots, List.map_cons, List.map_nil, List.zipIdx_cons, List.zipIdx_nil, Nat.reduceAdd])
      ((repeat' (first | (refine z_box (d := 4) 4 ?_) | (refine z_make (d := 63) 63 ?_) | (refine z_append0 (d := 112) 112 ?_) | (refine yyp ?_; (try refine s_bu ?_ ?_ <;> (intro hb; try simp only [decide_eq_true_eq, decide_eq_false_iff_not] at hb))) | (refine yy ?_) | (refine yy2 ?_ ?_ <;> (intro hcmp; try simp only [cmp] at hcmp)) | (refine y_call (hc := (hB)) ?_) | (refine z_append (fun kv => ?_)) | (refine z_append_suf (fun sx sp kv hsx hsp hsl => ?_)) | (refine z_nil [0, 1, 2, 3, 4, 8, 9, 10, 11, 12, 13, 15, 16, 17, 18, 19, 20, 36, 52, 67, 75, 87, 100, 117, 137] ?_) | (refine tc_seq fun K hK => ?_) | (refine z_draw (id := 2) [] (lin [0, 4, 8, 12, 16, 20, 24, 28, 32, 36, 44, 41, 49, 52, 56]) ?_) | (refine z_draw (id := 22) [11, 13] (lin [0, 4, 8, 12, 16, 24, 28, 32, 36, 21, 41, 47, 48, 55]) ?_) | (refine z_draw (id := 26) [] (lin [8, 12, 16, 20, 32, 36, 40, 44, 60, 1, 5, 25, 49, 52, 57, 30, 66, 68]) ?_) | (apply_assumption -exfalso -symm))); all_goals (try refine unhalt ?_))
      all_goals first | (exfalso; exact absurd (by assumption) hbs) | (refine tc_ret (EndsE.mk (.inl rfl) ⟨_, [(950, .row 44 1 false _ 0)], by (repeat (first | exact ResE.nil | apply ResE.tmp rfl (by first | exact ArgE.own rfl | exact ArgE.nils _ | exact ArgE.same _) | apply ResE.cells rfl rfl (by (repeat (first | exact Cut.done _ | apply Cut.take | apply Cut.skip)); fail_if_success intros) (by (repeat (first | exact ToDs.nil | apply ToDs.cons (ToD.d _) | apply ToDs.cons (ToD.nils _) | apply ToDs.cons (ToD.own rfl))); fail_if_success intros) (by rfl) | apply ResE.cell rfl rfl rfl (by first | exact ArgE.own rfl | exact ArgE.nils _ | exact ArgE.same _))); fail_if_success intros, .cons rfl .nil, by rfl, rfl, _, rfl⟩))
end Go.Proofs.YtcblefmjacofgaaDoor
