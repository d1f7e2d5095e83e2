/- Parts: NW17. -/
import Derived.Test.YtjhbglklcddekaaGreatDoorV41
import Derived.Test.YtjhbglklcddekaaGreatDoorV42
import Derived.Test.YtjhbglklcddekaaGreatDoorV37
import Derived.Test.YtjhbglklcddekaaGreatDoorV27
set_option linter.all false
set_option maxRecDepth 100000
set_option maxHeartbeats 16000000
namespace Go.Proofs.YtjhbglklcddekaaGreatDoor
open Go.RowKit Go.Proofs.Tryz
section
def qnw17_0 : List Nat := [0, 1, 4, 5, 6, 7, 8, 9, 10, 11, 13, 15, 16, 17, 18, 19, 27, 38, 73, 107, 132, 137]
def qnw17_1 : Plan := lin [0, 4, 8, 12, 16, 24, 28, 32, 36, 21, 41, 46, 48, 52, 56, 60, 64]
def qnw17_2 : Plan := lin [0, 4, 8, 12, 16, 20, 24, 32, 36, 40, 44, 29, 49, 52, 56]
def qnw17_3 : Plan := lin [0, 12, 17, 6, 9, 20, 24, 28, 32, 36, 40, 44, 48, 60, 53, 57, 65, 68, 72, 76, 80, 86, 88, 92, 98, 100, 104]
open Go.RowKit Nd
attribute [local irreducible] TR TC
theorem wword_fn (gl : List (Nat × List D)) (v : Nat) (hv : v < 4294967296) : FnD prog gl 32 [.d (.int .i32 (s32 v))] (fun r => r = .d (.list 1 (dBs (four v)))) := by
  have c := rfour_fn gl v hv
  (refine y_enter func32 ntmps32 results32 fun w M => ?_)
  (repeat' first | refine yyp ?_; try refine s_bu ?_ ?_ <;> intro hb | refine yy ?_ | refine at_call 38 ?_; refine y_call (hc := c) ?_ | refine at_nil ?_; refine z_nil [0, 2, 3, 4] ?_ | refine tc_seq fun K hK => ?_ | apply_assumption -exfalso -symm)
  (refine tc_ret (y_ret ?_))
  rfl
theorem networkPeeks_fn (gl : List (Nat × List D)) (l : List (Nat × Nat)) (ho : okW l) (held : List Int) :
    FnD prog gl 6 [.d (.list 2 (l.map dW)), .d (.list 1 (held.map (D.int .u32)))] (fun v => v = .d (.bool true)) := by
  have cH := nethead_fn gl
  have c1 := one_fn gl
  have c2 := netnew_fn gl
  have hll : (l.map dW).length = l.length := List.length_map _
  have hhl : (held.map (D.int .u32)).length = held.length := List.length_map _
  (refine y_enter func6 ntmps6 results6 fun w M => ?_)
  (repeat' first | refine tr_at 31 ?_; refine y_callG (hc := c2) ?_ | refine tr_at 34 ?_; (refine z_make 1034 ?_) | refine yyp ?_; try refine s_bu ?_ ?_ <;> intro hb | refine yy ?_ | refine yy2 ?_ ?_ <;> intro hcmp | refine at_call 29 ?_; refine y_call (hc := cH) ?_; try refine s_bu ?_ ?_ <;> intro hb | refine at_call 31 ?_; refine y_call (hc := c1) ?_ | refine at_nil ?_; refine z_nil qnw17_0 ?_ | refine tc_seq fun K hK => ?_ | refine tc_at 13 ?_; refine z_draw [] qnw17_1 ?_ | refine tc_at 22 ?_; refine z_draw [] qnw17_2 ?_ | refine tc_at 29 ?_; refine z_draw [] qnw17_3 ?_ | apply_assumption -exfalso -symm)
  · (refine tc_ret (y_ret ?_))
    rfl
  · (refine tc_ret (y_ret ?_))
    rfl
  clear c1 c2
  have hl20 : l.length ≤ 20 := by omega
  have hh600 : held.length ≤ 600 := by omega
  refine tc_share 1034 rfl ?_
  refine tc_wk (wk_slot 7 rfl (ToD.own rfl)) ?_
  rw [← zeros]
  refine tc_row (t := 8) (e := 5) (sz := 1) rfl rfl ?_
  clear hll
  obtain ⟨z, hz⟩ : ∃ z, z = List.replicate 1024 (0 : UInt8) := ⟨_, rfl⟩
  have hzl : z.length = 1024 := by rw [hz]; exact List.length_replicate
  refine y_famx (ι := Nat × Nat × List UInt8 × List D × List UInt8) [4, 7, 8, 9, 10, 11, 12, 13, 14, 35, 36, 37, 38, 39, 40, 41, 42, 43, 44, 45, 46, 47, 48, 49, 50, 51, 52, 53, 54, 55, 56, 57, 58, 59, 60, 61, 62, 63, 64, 65, 66, 67, 68, 69, 70, 71, 72, 73, 74, 75, 76, 77, 78, 79, 80, 81, 82, 83, 84, 85, 86, 87, 88, 89, 90, 91, 92, 93, 94, 95, 96, 97, 98, 99, 100, 101, 102, 103] [960, 961, 962, 910, 900, 901, 903, 8, 1034] (fun x => [(9, .d (.int .i64 x.1)), (8, .own 8 x.2.1), (7, .d (.list 1 (dBs x.2.2.2.2)))])
    (fun x => NetH 0 ⟨se0, x.2.2.1, [], false⟩ (new 1024) ++ [(8, .row 5 1 true x.2.2.2.1 x.2.1)])
    (fun x => x.1 ≤ l.length ∧ x.2.2.1 = (l.take x.1).flatMap wordB ∧ x.2.2.2.1 = dBs (wantW z (l.take x.1)) ∧ x.2.2.2.2 = memW z (l.take x.1)) (fun x => l.length - x.1) (0, 0, [], [], List.replicate 1024 0) ⟨Nat.zero_le _, rfl, rfl, hz.symm⟩  fun ⟨i, kw, g, wn, m⟩ ⟨hi, hg, hw, hm⟩ => ?_
  dsimp only [List.cons_append, List.nil_append] at hi hg hw hm ⊢
  have hgl : g.length = 14 * i := by rw [hg, words_len, List.length_take, Nat.min_eq_left hi]
  have hwl : wn.length = 4 * i := by rw [hw, dBs_len, wantW_len, List.length_take, Nat.min_eq_left hi]
  rcases Nat.lt_or_ge i l.length with hil | hil
  · have hxo := ho l[i] (List.getElem_mem hil)
    have hml : m.length = 1024 := by rw [hm, memW_len _ _ (by rw [hzl]), hzl]
    have a1 := wword_fn gl l[i].1 hxo.1
    have a2 := wword_fn gl l[i].2 hxo.2
    have a3 := rsetWord_fn gl m l[i].1 l[i].2 hxo.1 hxo.2 (by rw [hml]) (by omega)
    have hsl : (setWord m l[i].1 l[i].2).length = 1024 := by rw [setWord_len _ _ _ (by rw [hml]), hml]
    have a4 := rword_fn gl (setWord m l[i].1 l[i].2) l[i].1 hxo.1 (by rw [hsl]) (by omega)
    have a5 := wword_fn gl (wordAt (setWord m l[i].1 l[i].2) l[i].1) (wordAt_lt _ _)
    have l3 : (dBs (four (wordAt (setWord m l[i].1 l[i].2) l[i].1))).length = 4 := rfl
    have l1 : (dBs (four l[i].1)).length = 4 := rfl
    have l2 : (dBs (four l[i].2)).length = 4 := rfl
    have cG := netgive_fn gl 0 ⟨se0, g, [], false⟩ (new 1024) ⟨_, _, _, _, rfl⟩ (wordB l[i]) (by rw [wordB_len]; show 14 + g.length ≤ _; omega)
    have eW : dBs (wordB l[i]) = [D.int .u8 0] ++ dBs (four l[i].1) ++ dBs (four l[i].2) ++ [D.int .u8 1] ++ dBs (four l[i].1) := by
      rw [← List.nil_append (dBs (wordB l[i])), ← wordB_d l[i] []]
      rfl
    rw [eW] at cG
    change FnE _ _ _ _ (NetH 0 ⟨se0, g, [], false⟩ (new 1024)) (fun v H1 => v = _ ∧ H1 = NetH 0 ⟨se0, g ++ wordB l[i], [], false⟩ (new 1024)) at cG
    ((repeat' first | refine tr_at 41 ?_; (refine z_lit 2041 ?_) | refine tr_at 57 ?_; (refine z_lit 2057 ?_) | refine tc_at 11 ?_; refine halt ?_ | refine yyp ?_; try refine s_bu ?_ ?_ <;> intro hb | refine yy ?_ | refine at_call 32 ?_; refine y_call (hc := a1) ?_ | (refine at_append ?_; first | (refine z_append (fun kv => ?_)) | (refine z_append_suf (fun sx sp kv hsx hsp hsl => ?_))) | refine at_call 32 ?_; refine y_call (hc := a2) ?_ | refine at_nil ?_; refine z_nil qnw17_0 ?_ | refine tc_seq fun K hK => ?_ | refine tc_at 13 ?_; refine z_draw [] qnw17_1 ?_ | refine tc_at 22 ?_; refine z_draw [] qnw17_2 ?_ | refine tc_at 29 ?_; refine z_draw [] qnw17_3 ?_ | apply_assumption -exfalso -symm); all_goals try refine unhalt ?_)
    rename Nat => kg2
    (repeat' first | refine tr_at 71 ?_; refine y_callE (hc := cG) ?_ | refine yyp ?_; try refine s_bu ?_ ?_ <;> intro hb | refine yy ?_ | (refine at_append ?_; first | (refine z_append (fun kv => ?_)) | (refine z_append_suf (fun sx sp kv hsx hsp hsl => ?_))) | refine at_call 32 ?_; refine y_call (hc := a1) ?_ | refine at_call 10 ?_; refine y_call (hc := a3) ?_ | refine at_call 11 ?_; refine y_call (hc := a4) ?_ | refine at_call 32 ?_; refine y_call (hc := a5) ?_ | refine at_nil ?_; refine z_nil qnw17_0 ?_ | refine tc_seq fun K hK => ?_ | refine tc_at 13 ?_; refine z_draw [] qnw17_1 ?_ | refine tc_at 22 ?_; refine z_draw [] qnw17_2 ?_ | refine tc_at 29 ?_; refine z_draw [] qnw17_3 ?_ | apply_assumption -exfalso -symm)
    refine ⟨(i + 1, kv, g ++ wordB l[i], wn ++ dBs (four (wordAt (setWord m l[i].1 l[i].2) l[i].1)), setWord m l[i].1 l[i].2), ⟨by dsimp only; omega, ?_, ?_, ?_⟩, by dsimp only; omega, y_wk⟩
    · dsimp only
      rw [List.take_succ_eq_append_getElem hil, wordB_app, ← hg]
    · dsimp only
      rw [List.take_succ_eq_append_getElem hil, wantW_app, dBs_app, ← hw, ← hm]
    · dsimp only
      rw [List.take_succ_eq_append_getElem hil, memW_app, ← hm]
  · obtain rfl : i = l.length := by omega
    rw [List.take_length] at hg hw hm
    (repeat' first | refine yyp ?_; try refine s_bu ?_ ?_ <;> intro hb | refine yy ?_ | refine at_nil ?_; refine z_nil qnw17_0 ?_ | refine tc_seq fun K hK => ?_ | refine tc_at 13 ?_; refine z_draw [] qnw17_1 ?_ | refine tc_at 22 ?_; refine z_draw [] qnw17_2 ?_ | refine tc_at 29 ?_; refine z_draw [] qnw17_3 ?_ | apply_assumption -exfalso -symm)
    clear hil hgl hi
    have hwl : (wantW z l).length = 4 * l.length := wantW_len l z
    have hstr := ps0_str l ho
    have hphi := ps0_phi l ho
    have hok := ps0_ok (l.flatMap wordB)
    rw [← hz] at hstr
    rw [← hg] at hstr hphi hok
    have hfl : (memW z l).length = 1024 := by rw [memW_len _ _ (by rw [hzl]), hzl]
    clear hg hz hzl ho
    rw [hw]
    rw [hm]
    clear hw hm
    generalize wantW z l = want at *
    generalize memW z l = fm at *
    refine tc_wk (wk_slot 8 rfl (ToD.own rfl)) ?_
    have wl := dBs_len want
    have fl := dBs_len fm
    refine y_famx (ι := Nat × Ps) (8 :: [4, 15, 16, 104, 105, 106, 107, 108, 109, 110, 111, 112, 113, 114, 115, 116, 117, 118, 119, 120, 121, 122, 123, 124, 125, 126, 127, 128, 129, 130, 131, 132]) [960, 961, 962, 910, 900, 901, 903, 8] (fun x => [(15, .d (.int .i64 x.1)), (8, .d (.list 1 (dBs want)))])
      (fun x => NetH x.1 x.2.host x.2.node) (fun x => x.1 ≤ held.length ∧ x.2.ok ∧ x.2.str want fm ∧ x.2.phi ≤ 234 * l.length) (fun x => held.length - x.1) (0, ps0 g) ⟨Nat.zero_le _, hok, hstr, Nat.le_of_eq hphi⟩  fun ⟨i, p⟩ ⟨hi, hok, hstr, hphi⟩ => ?_
    dsimp only [List.cons_append, List.nil_append] at hi hok hstr hphi ⊢
    rcases Nat.lt_or_ge i held.length with hil | hil
    · obtain ⟨a, b, X, _, c⟩ := netstep_ps gl i (by omega) held[i] p hok hstr (by omega)
      have hn := ps_next p a b hok hstr
      have cg := netgot_ps gl (i + 1) (pstep a b p) hn.2.1 (by omega)
      obtain ⟨gp1, gp2⟩ := got_pre (pstep a b p) hn.2.1
      obtain ⟨a0, b0, c0, d0, g1⟩ := p.four
      obtain ⟨a1, b1, c1, d1, g2⟩ := (pstep a b p).four
      unfold NetP at c cg
      generalize hp' : pstep a b p = p' at *
      rcases hq : p.node with ⟨nl, nb, no, nm, ns, nr⟩
      rcases hq2 : p'.node with ⟨nl2, nb2, no2, nm2, ns2, nr2⟩
      rw [hq] at c g1
      rw [hq2] at c cg g2
      generalize p.host = h4 at c ⊢
      generalize hh5 : p'.host = h5 at c cg
      dsimp only at c cg g1 g2 ⊢
      subst g1 g2
      generalize p'.got = got at *
      have ggl := dBs_len got
      have hN : (i : Int) < held.length := by omega
      have hcv : List.take (got.length - 0) (List.drop 0 (dBs want)) = got.map dByte := by
        rw [Nat.sub_zero, List.drop_zero, ← dBs_take, gp2]
        rfl
      (repeat' first | refine tr_at 115 ?_; refine y_callE (hc := c) ?_ | refine tr_at 117 ?_; refine y_callE (hc := cg) ?_ | refine tr_at 130 ?_; (refine z_q (q_conv_bytes (l := got) rfl rfl hcv) ?_) | refine yyp ?_; try refine s_bu ?_ ?_ <;> intro hb | refine yy ?_ | refine yy2 ?_ ?_ <;> intro hcmp | refine at_nil ?_; refine z_nil qnw17_0 ?_ | refine tc_seq fun K hK => ?_ | refine tc_at 13 ?_; refine z_draw [] qnw17_1 ?_ | refine tc_at 22 ?_; refine z_draw [] qnw17_2 ?_ | refine tc_at 29 ?_; refine z_draw [] qnw17_3 ?_ | apply_assumption -exfalso -symm)
      · refine ⟨(i + 1, p'), ⟨by dsimp only; omega, hn.1, hn.2.1, Nat.le_trans hn.2.2 hphi⟩, by dsimp only; omega, ?_⟩
        dsimp only
        rw [hh5, hq2]
        exact y_wk
      · exact absurd rfl hcmp
    · obtain rfl : i = held.length := by omega
      (repeat' first | refine yyp ?_; try refine s_bu ?_ ?_ <;> intro hb | refine yy ?_ | refine at_nil ?_; refine z_nil qnw17_0 ?_ | refine tc_seq fun K hK => ?_ | refine tc_at 13 ?_; refine z_draw [] qnw17_1 ?_ | refine tc_at 22 ?_; refine z_draw [] qnw17_2 ?_ | refine tc_at 29 ?_; refine z_draw [] qnw17_3 ?_ | apply_assumption -exfalso -symm)
      clear hil hi hhl
      obtain ⟨T, hT⟩ : ∃ T, T = held.length := ⟨_, rfl⟩
      rw [← hT]
      refine y_famx (ι := Nat × Ps) [17, 133, 134, 135, 136, 137, 138, 139, 140, 141] [960, 961, 962, 910, 900, 901, 903] (fun x => [(17, .d (.int .i64 x.1))])
        (fun x => NetH (T + x.1) x.2.host x.2.node) (fun x => x.1 ≤ 432 * l.length ∧ x.2.ok ∧ x.2.str want fm ∧ x.2.phi ≤ 234 * l.length - x.1) (fun x => 432 * l.length - x.1) (0, p) ⟨Nat.zero_le _, hok, hstr, hphi⟩  fun ⟨i, p⟩ ⟨hi, hok, hstr, hphi⟩ => ?_
      dsimp only [List.cons_append, List.nil_append] at hi hok hstr hphi ⊢
      rcases Nat.lt_or_ge i (432 * l.length) with hil | hil
      · obtain ⟨a, b, X, hx, c⟩ := netstep_ps gl (T + i) (by omega) 0 p hok hstr (by omega)
        obtain ⟨rfl, rfl⟩ := hx rfl
        have hn := ps_next p false false hok hstr
        have hless : (pstep false false p).phi ≤ 234 * l.length - (i + 1) := by
          rcases Nat.eq_zero_or_pos p.phi with h | h
          · have := hn.2.2
            omega
          · have := pstep_less p hok hstr h
            omega
        obtain ⟨a0, b0, c0, d0, g1⟩ := p.four
        obtain ⟨a1, b1, c1, d1, g2⟩ := (pstep false false p).four
        unfold NetP at c
        generalize hp' : pstep false false p = p' at *
        rcases hq : p.node with ⟨nl, nb, no, nm, ns, nr⟩
        rcases hq2 : p'.node with ⟨nl2, nb2, no2, nm2, ns2, nr2⟩
        rw [hq] at c g1
        rw [hq2] at c g2
        generalize p.host = h4 at c ⊢
        generalize hh5 : p'.host = h5 at c
        dsimp only at c g1 g2 ⊢
        subst g1 g2
        have hN : (i : Int) < 432 * l.length := by omega
        (repeat' first | refine tr_at 141 ?_; refine y_callE (hc := c) ?_ | refine yyp ?_; try refine s_bu ?_ ?_ <;> intro hb | refine yy ?_ | refine at_nil ?_; refine z_nil qnw17_0 ?_ | refine tc_seq fun K hK => ?_ | refine tc_at 13 ?_; refine z_draw [] qnw17_1 ?_ | refine tc_at 22 ?_; refine z_draw [] qnw17_2 ?_ | refine tc_at 29 ?_; refine z_draw [] qnw17_3 ?_ | apply_assumption -exfalso -symm)
        refine ⟨(i + 1, p'), ⟨by dsimp only; omega, hn.1, hn.2.1, hless⟩, by dsimp only; omega, ?_⟩
        dsimp only
        rw [hh5, hq2]
        exact y_wk
      · obtain rfl : i = 432 * l.length := by omega
        obtain ⟨e1, e2⟩ := phi_zero p hok hstr (by omega)
        rw [e1, e2]
        have cS := netstateF_fn gl (T + 432 * l.length) want fm (by omega) (by omega)
        have cG := netgotF_fn gl (T + 432 * l.length) want fm (by omega)
        have cI := netidleF_fn gl (T + 432 * l.length) want fm (by omega)
        unfold restN at cS
        simp only [stateD, coreD, four_links, lkD, seD, dBs_nil, List.cons_append, List.nil_append, List.append_assoc] at cS
        clear e1 e2 hil hi hok hstr hphi
        ((repeat' first | refine tc_at 28 ?_; refine halt ?_ | refine yyp ?_; try refine s_bu ?_ ?_ <;> intro hb | refine yy ?_ | refine at_nil ?_; refine z_nil qnw17_0 ?_ | refine tc_seq fun K hK => ?_ | refine tc_at 13 ?_; refine z_draw [] qnw17_1 ?_ | refine tc_at 22 ?_; refine z_draw [] qnw17_2 ?_ | refine tc_at 29 ?_; refine z_draw [] qnw17_3 ?_ | apply_assumption -exfalso -symm); all_goals try refine unhalt ?_)
        refine tc_wk (wk_hbox_out (n := 900) (q := 902) rfl rfl) ?_
        refine tc_share 903 rfl ?_
        refine tc_fcell 900 28 901 rfl rfl rfl (ns := [901, 903]) (.cons (ToD.own rfl) .nil) rfl (by (repeat (first | exact Drop.nil | apply Drop.drop rfl | apply Drop.take rfl)); fail_if_success intros) rfl rfl rfl ?_
        refine tc_wk (wk_hbox_in (n := 900) (q := 902) (i := 115) rfl rfl rfl rfl (by (repeat (first | exact Drop.nil | apply Drop.drop rfl | apply Drop.take rfl)); fail_if_success intros) rfl) ?_
        (repeat' first | refine tr_at 144 ?_; refine y_callE (hc := cS) ?_ | refine tr_at 18 ?_; (refine z_alloc 8018 ?_) | refine tr_at 148 ?_; refine y_callE (hc := cG) ?_ | refine tr_at 168 ?_; refine y_callE (hc := cI) ?_; try refine s_bu ?_ ?_ <;> intro hb | refine yyp ?_; try refine s_bu ?_ ?_ <;> intro hb | refine yy ?_ | refine yy2 ?_ ?_ <;> intro hcmp | refine at_call 29 ?_; refine y_call (hc := cH) ?_; try refine s_bu ?_ ?_ <;> intro hb | refine at_nil ?_; refine z_nil qnw17_0 ?_ | refine tr_mid ?_ ?_ | (apply tc_mid (x := .region 29 _ _); focus ((refine tc_at 29 ?_; refine z_draw [1, 21] (linT [0, 12] (.mid 4 (lin [7, 9, 20, 24, 28, 32, 36, 40, 44, 48, 60, 53, 57, 65, 68, 72, 76, 80, 87, 88, 92, 98, 100, 104]) 1 (lin [9, 17, 20, 24, 28, 32, 36, 40, 44, 48, 60, 53, 57, 65, 68, 72, 76, 80, 87, 88, 92, 98, 100, 104]))) ?_); (repeat' (first | refine tr_at 148 ?_; refine y_callE (hc := cG) ?_ | refine tr_at 168 ?_; refine y_callE (hc := cI) ?_ | refine yyp ?_ | refine yy ?_ | refine yy2 ?_ ?_ <;> intro hcmp | refine at_call 29 ?_; refine y_call (hc := cH) ?_ | refine at_nil ?_; refine z_nil qnw17_0 ?_ | refine tr_mid ?_ ?_)); (all_goals first | exact Wk.refl _ _ | exact y_wk); done)) | refine tc_seq fun K hK => ?_ | refine tc_at 13 ?_; refine z_draw [] qnw17_1 ?_ | refine tc_at 22 ?_; refine z_draw [] qnw17_2 ?_ | refine tc_at 29 ?_; refine z_draw [1, 21] (linT [0, 12] (.mid 4 (lin [7, 9, 20, 24, 28, 32, 36, 40, 44, 48, 60, 53, 57, 65, 68, 72, 76, 80, 87, 88, 92, 98, 100, 104]) 1 (lin [9, 17, 20, 24, 28, 32, 36, 40, 44, 48, 60, 53, 57, 65, 68, 72, 76, 80, 87, 88, 92, 98, 100, 104]))) ?_ | apply_assumption -exfalso -symm)
        all_goals
          first
            | exact absurd rfl hcmp
            | ((refine tc_ret (y_ret ?_))
               rfl)
end
end Go.Proofs.YtjhbglklcddekaaGreatDoor
