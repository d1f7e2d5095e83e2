/- Parts: N31, RowO, N32. -/
import Derived.Test.YtjhbglklcddekaaGreatDoorP39
import Derived.Test.YtjhbglklcddekaaGreatDoorP38
import Derived.Test.YtjhbglklcddekaaGreatDoorP43
import Derived.Test.YtjhbglklcddekaaGreatDoorP42
set_option linter.all false
set_option maxRecDepth 100000
set_option maxHeartbeats 16000000
namespace Go.Proofs.YtjhbglklcddekaaGreatDoor
open Go.RowKit Go.Proofs.Tryz
section
open Go.RowKit Nd
namespace Nd
def dW (x : Nat × Nat) : D := .agg [.int .i32 (s32 x.1), .int .i32 (s32 x.2)]
theorem put_len (m : List UInt8) (i : Nat) (x : List UInt8) (h : i + x.length ≤ m.length) : (put m i x).length = m.length := by
  unfold put
  simp only [List.length_append, List.length_take, List.length_drop]
  omega
theorem setWord_len (m : List UInt8) (a v : Nat) (h : m.length % 4 = 0) : (setWord m a v).length = m.length := by
  unfold setWord
  split
  · exact put_len _ _ _ (by rw [four_len]; omega)
  · rfl
theorem foldl_last {α β : Type} (f : β → α → β) (b : β) (l : List α) (x : α) : (l ++ [x]).foldl f b = f (l.foldl f b) x := by simp
theorem memW_app (m : List UInt8) (l : List (Nat × Nat)) (x : Nat × Nat) : memW m (l ++ [x]) = setWord (memW m l) x.1 x.2 := foldl_last _ m l x
theorem memW_cons (m : List UInt8) (x : Nat × Nat) (l : List (Nat × Nat)) : memW m (x :: l) = memW (setWord m x.1 x.2) l := List.foldl_cons ..
theorem wantW_cons (m : List UInt8) (x : Nat × Nat) (l : List (Nat × Nat)) : wantW m (x :: l) = four (wordAt (setWord m x.1 x.2) x.1) ++ wantW (setWord m x.1 x.2) l := by simp only [wantW]
theorem memW_len : ∀ (l : List (Nat × Nat)) (m : List UInt8), m.length % 4 = 0 → (memW m l).length = m.length
  | [], _, _ => rfl
  | x :: l, m, h => by
    have h1 := setWord_len m x.1 x.2 h
    rw [memW_cons, memW_len l _ (by rw [h1]; exact h), h1]
theorem wantW_app : ∀ (l : List (Nat × Nat)) (m : List UInt8) (x : Nat × Nat), wantW m (l ++ [x]) = wantW m l ++ four (wordAt (setWord (memW m l) x.1 x.2) x.1)
  | [], m, x => by rw [List.nil_append, wantW_cons]; exact List.append_nil _
  | y :: l, m, x => by
    rw [List.cons_append, wantW_cons, wantW_app l, wantW_cons, memW_cons, List.append_assoc]
theorem wordB_app (l : List (Nat × Nat)) (x : Nat × Nat) : (l ++ [x]).flatMap wordB = l.flatMap wordB ++ wordB x := by simp
theorem wordB_d (x : Nat × Nat) (g : List D) : g ++ [.int .u8 0] ++ dBs (four x.1) ++ dBs (four x.2) ++ [.int .u8 1] ++ dBs (four x.1) = g ++ dBs (wordB x) := by
  unfold wordB
  simp only [dBs, List.map_append, List.map_cons, List.append_assoc, List.cons_append, List.nil_append]
  rfl
theorem wordB_len (x : Nat × Nat) : (wordB x).length = 14 := rfl
theorem words_len (l : List (Nat × Nat)) : (l.flatMap wordB).length = 14 * l.length := by
  induction l with
  | nil => rfl
  | cons x l ih => rw [List.flatMap_cons, List.length_append, ih, wordB_len, List.length_cons]; omega
theorem wantW_len : ∀ (l : List (Nat × Nat)) (m : List UInt8), (wantW m l).length = 4 * l.length
  | [], _ => rfl
  | x :: l, m => by
    rw [wantW_cons, List.length_append, wantW_len l, four_len, List.length_cons]
    omega
theorem boots_lt {k : Nat} (hk : k < 4) (l : List (Nat × Nat)) (ho : okW l) (code : List UInt8) (h2 : 2 ≤ code.length) (h3 : code.length ≤ 255) :
    ∃ T s, T + 1 < 40 * (code.length + 20 * l.length + 10) ∧ run k T (⟨se0, l.flatMap wordB ++ UInt8.ofNat code.length :: code, [], false⟩, new 1024) = s ∧ s.2.run = none ∧ (both k s).1.got = wantW (List.replicate 1024 0) l ∧
      (both k s).2 = ⟨k, [], [], put (memW (List.replicate 1024 0) l) 72 code, at4 k ⟨⟨[false], false, none, []⟩, false, none⟩, some (-2147483648 + 72 + ((code.length + 3) / 4 * 4 : Nat), -2147483648 + 16 + 4 * (k : Int))⟩ := by
  obtain ⟨y, r, hy⟩ : ∃ y r, l.flatMap wordB ++ UInt8.ofNat code.length :: code = y :: r := by
    cases hl : l.flatMap wordB with
    | nil => exact ⟨_, _, rfl⟩
    | cons a t => exact ⟨_, _, rfl⟩
  have hs0 : ((⟨se0, y :: r, [], false⟩, new 1024) : Ho × NB) = idle k (y :: r) [] (-1) [] (List.replicate 1024 0) := by
    unfold idle new
    rcases four_k hk with rfl | rfl | rfl | rfl <;> rfl
  have q0 := byte_in hk y r [] (-1) [] (List.replicate 1024 0) (.inl rfl) (by
    show ¬ ([y] : List UInt8).length = whole [y]
    simp only [whole, List.length_cons, List.length_nil]
    split
    · omega
    · split
      · omega
      · rename_i h0 _
        have : y.toNat ≠ 0 := fun h => h0 (UInt8.toNat_inj.1 h)
        omega)
  have q1 := words hk (UInt8.ofNat code.length) code l [] (List.replicate 1024 0) y r ho hy
  obtain ⟨s, q2, q3, q4, q5⟩ := code_in hk code h2 h3 ([] ++ wantW (List.replicate 1024 0) l) (memW (List.replicate 1024 0) l)
  refine ⟨12 + 206 * l.length + (12 * (code.length - 1) + 10), s, by omega, ?_, q3, by rw [q4, List.nil_append], q5⟩
  rw [hy, hs0]
  exact run_app (run_app q0 q1) q2
theorem Ho.heard_ok (h : Ho) (hd : Heard) (hok : h.en.ok) : (Ho.heard h hd).en.ok := by
  cases hd with
  | byte b =>
    show Se.ok (if h.en.ack then se0 else { h.en with ack := true })
    split
    · exact ok0
    · exact ⟨hok.txl, hok.last, hok.first, hok.rxl, hok.rx0, hok.rx1⟩
  | _ => exact hok
theorem Ho.heard_got (h : Ho) (hd : Heard) : (Ho.heard h hd).got.length ≤ h.got.length + 1 := by
  cases hd with
  | byte b => exact Nat.le_of_eq (by show (h.got ++ [b]).length = _; rw [List.length_append]; rfl)
  | _ => exact Nat.le_succ _
theorem Ho.load_got (h : Ho) : h.load.got = h.got := by
  unfold Ho.load
  split
  · rfl
  · split <;> rfl
end Nd
theorem wk_tr {C : Ctx} {S S' S'' : Sd} (h1 : Wk C S S') (h2 : Wk C S' S'') : Wk C S S'' := fun a w h => h2 a w (h1 a w h)
structure Bothed (gl : List (Nat × List D)) (k : Nat) (s : Ho × NB) (l' : Lk) : Prop where
  fn : FnE prog gl 12 [.ptr 910 0, .ptr 900 0, .d (.int .i64 k)] (HH s.1 ++ NH s.2) (fun v H1 => v = .tup [] ∧ H1 = HH (both k s).1 ++ NH (both k s).2)
  ok : (both k s).1.en.ok
  got : (both k s).1.got.length ≤ s.1.got.length + 1
  ls : (both k s).2.ls = at4 k l'
  fits : (both k s).2.run = none → (both k s).2.fits k l'
theorem hboth_fn (gl : List (Nat × List D)) (k : Nat) (hk : k < 4) (s : Ho × NB) (l : Lk) (hok : s.1.en.ok) (h : s.2.fits k l) (hg : s.1.got.length ≤ 1000000) : ∃ l', Bothed gl k s l' := by
  obtain ⟨h0, n⟩ := s
  dsimp only at hok h hg
  obtain ⟨⟨e2, bit⟩, hq⟩ : ∃ x, h0.load.en.next = x := ⟨_, rfl⟩
  have hok2 := (Ho.load_ok h0 hok).next
  rw [hq] at hok2
  obtain ⟨l1, h1, cR⟩ := nrx_fn gl k hk n l bit h
  obtain ⟨l2, B, h2⟩ := nstep_fn gl k hk _ l1 h1
  obtain ⟨h3, cT⟩ := ntx_at gl k hk _ l2 h2.ls h2.ok
  have four : ∀ (n : NB) (l : Lk), n.ls = at4 k l → n.four := fun n l h => by
    unfold NB.four
    rw [h]
    exact four_at hk l
  have hf := hstep_fn gl k h0 n hok _ _ _ bit _ e2 _ B _ hq hg (four _ _ h.ls) (four _ _ h1.ls) (four _ _ h2.ls) (four _ _ h3) cR h2.fn cT
  have e : both k (h0, n) = (Ho.heard { h0.load with en := (e2.hear (((n.rx k bit).step).tx k).2).1 } (e2.hear (((n.rx k bit).step).tx k).2).2, (((n.rx k bit).step).tx k).1) := by
    unfold both
    dsimp only
    rw [hq]
  refine ⟨{ l2 with wire := l2.wire.next.1 }, ?_, ?_, ?_, ?_, fun hr => ?_⟩
  · rw [e]
    exact hf
  · rw [e]
    exact Ho.heard_ok _ _ (hok2.hear _)
  · rw [e]
    refine Nat.le_trans (Ho.heard_got _ _) ?_
    show h0.load.got.length + 1 ≤ _
    rw [Ho.load_got]
    exact Nat.le_refl _
  · rw [e]
    exact h3
  · rw [e] at hr ⊢
    have hr' : ((n.rx k bit).step).run = none := hr
    obtain ⟨q1, q2, q3, q4, q5, q6, q7, q8, q9, q10⟩ := h2.fits hr'
    exact ⟨h3, h2.ok.next, q3, q4, q5, q6, q7, q8, q9, q10⟩
theorem run_holds (gl : List (Nat × List D)) (k : Nat) (hk : k < 4) (s0 : Ho × NB) (l0 : Lk) (h0 : s0.2.fits k l0) (hok : s0.1.en.ok) (hg : s0.1.got = []) : ∀ t : Nat, t ≤ 100000 → (∀ i, i < t → (run k i s0).2.run = none) →
    (run k t s0).1.en.ok ∧ (run k t s0).1.got.length ≤ t ∧ ∃ l, (run k t s0).2.ls = at4 k l ∧ ((run k t s0).2.run = none → (run k t s0).2.fits k l)
  | 0, _, _ => ⟨hok, by show s0.1.got.length ≤ 0; rw [hg]; exact Nat.le_refl _, l0, h0.ls, fun _ => h0⟩
  | t + 1, ht, hn => by
    obtain ⟨q1, q2, l, q3, q4⟩ := run_holds gl k hk s0 l0 h0 hok hg t (by omega) (fun i hi => hn i (by omega))
    obtain ⟨l', hb⟩ := hboth_fn gl k hk (run k t s0) l q1 (q4 (hn t (by omega))) (by omega)
    rw [run_succ]
    exact ⟨hb.ok, by have := hb.got; omega, l', hb.ls, hb.fits⟩
theorem fits_new {k : Nat} (hk : k < 4) : (new 1024).fits k lk0 := by
  refine ⟨?_, ok0, fun h => (by cases h), .inl rfl, rfl, List.length_replicate, fun h => absurd rfl h, fun _ => ⟨rfl, rfl⟩, fun h => ?_, fun h => absurd rfl h⟩
  · rcases four_k hk with rfl | rfl | rfl | rfl <;> rfl
  · have : (-1 : Int) = (k : Int) := h
    omega
end
section
open Go.ChangeShapes Go.WideShapes Go.ChangeAt Go.RowKit Nd
theorem u8_of {n : Int} (h : (Lit.int .u8 n).wf = true) : 0 ≤ n ∧ n ≤ 255 := by simpa [Lit.wf, IntKind.min, IntKind.max, IntKind.signed, IntKind.bits] using h
theorem i32_of {n : Int} (h : (Lit.int .i32 n).wf = true) : -2147483648 ≤ n ∧ n ≤ 2147483647 := by simpa [Lit.wf, IntKind.min, IntKind.max, IntKind.signed, IntKind.bits] using h
theorem s32_any {n : Int} (h : (Lit.int .i32 n).wf = true) : ∃ m : Nat, m < 4294967296 ∧ s32 m = n := by
  have := i32_of h
  refine ⟨(n % 4294967296).toNat, by omega, ?_⟩
  unfold s32
  split <;> omega
theorem opn_bytes : Opn prog 23 (fun ds => ∃ l : List UInt8, ds = [.list 1 (dBs l)]) :=
  (opn_slice true 1 Tryz.underlying23 (by kernel_rfl) (fun _ => rfl) (opn_int Tryz.underlying5)).mono fun ds ⟨xs, e, h, _⟩ => by
    have : ∀ xs : List (List D), (∀ x ∈ xs, (∃ n, x = [.int .u8 n] ∧ (Lit.int .u8 n).wf = true) ∧ x.length = 1) → ∃ l : List UInt8, xs.map (datOf true) = dBs l := by
      intro xs
      induction xs with
      | nil => intro _; exact ⟨[], rfl⟩
      | cons x xs ih =>
        intro h
        obtain ⟨⟨n, rfl, hw⟩, _⟩ := h x (by simp)
        obtain ⟨l, hl⟩ := ih (fun y hy => h y (by simp [hy]))
        have hb := u8_of hw
        refine ⟨UInt8.ofNat n.toNat :: l, ?_⟩
        rw [List.map_cons, hl]
        show _ = dB _ :: dBs l
        congr 1
        simp only [datOf, dB, UInt8.toNat_ofNat']
        congr 1
        omega
    obtain ⟨l, hl⟩ := this xs h
    exact ⟨l, by rw [e, hl]⟩
theorem opn_word : Opn prog 36 (fun ds => ∃ x : Nat × Nat, (x.1 < 4294967296 ∧ x.2 < 4294967296) ∧ .agg ds = dW x) :=
  (opn_struct (Gs := [_, _]) Tryz.underlying36 (.cons (opn_int Tryz.underlying21) (.cons (opn_int Tryz.underlying21) .nil)) (by kernel_rfl) (by kernel_rfl)).mono fun ds h => by
    obtain ⟨_, _, rfl, ⟨x, rfl, hx⟩, _, _, rfl, ⟨y, rfl, hy⟩, rfl⟩ := h
    obtain ⟨a, ha, rfl⟩ := s32_any hx
    obtain ⟨b, hb, rfl⟩ := s32_any hy
    exact ⟨(a, b), ⟨ha, hb⟩, rfl⟩
theorem list_of {α : Type} {p : α → Prop} {G : List D → Prop} {f : α → D} {sz : Nat} (hf : ∀ ds, G ds → ∃ a, p a ∧ .agg ds = f a) : ∀ xs : List (List D), (∀ x ∈ xs, G x ∧ x.length = sz) → ∃ l : List α, (∀ a ∈ l, p a) ∧ xs.map (datOf false) = l.map f
  | [], _ => ⟨[], by simp, rfl⟩
  | x :: xs, h => by
    obtain ⟨a, hp, ha⟩ := hf x (h x (by simp)).1
    obtain ⟨l, hl1, hl⟩ := list_of hf xs (fun y hy => h y (by simp [hy]))
    exact ⟨a :: l, by simpa using ⟨hp, hl1⟩, by rw [List.map_cons, List.map_cons, hl, ← ha]; rfl⟩
theorem opn_words : Opn prog 22 (fun ds => ∃ l : List (Nat × Nat), okW l ∧ ds = [.list 2 (l.map dW)]) :=
  (opn_slice false 2 Tryz.underlying22 (by kernel_rfl) (fun h => by cases h) opn_word).mono fun ds ⟨xs, e, h, _⟩ => by
    obtain ⟨l, h1, hl⟩ := list_of (fun _ h => h) xs h
    exact ⟨l, h1, by rw [e, hl]⟩
theorem one_arg {H : Type} {enc : TypeId × Value → H} {w : World} {d : DataW H} {ps : List MemPlace} {t : TypeId} {G : List D → Prop} {sp : Nat → Bool} {hd : Bool} {a : Option Addr} {l c : Nat} (ho : Opn prog t G) (h : DataW.Trod enc prog w 0 sp hd t (.slice a l c) d ps) :
    ∃ ds, G ds ∧ RepA w NoM ds [.slice a l c] := by
  obtain ⟨f, hf⟩ := h
  exact ho _ _ _ _ _ _ _ _ _ (by simpa [Value.cells] using hf)
theorem RepA.one' {w : World} {M : Nat → Nat → Prop} {x : D} {v : Value} (h : RepA w M [x] [v]) : RepD w M x v := by
  obtain ⟨_, _, e, _, h3, _⟩ := h
  simp at e
  rw [e.1]
  exact h3
theorem sl_arg {H : Type} {enc : TypeId × Value → H} {w : World} {v : Value} {d : DataW H} {ps : List MemPlace} {t e : TypeId} {G : List D → Prop} {b0 : Nat} {sp : Nat → Bool} {hd : Bool} (ht : prog.underlying t = some (.slice e)) (ho : Opn prog t G)
    (hv : Value.okWide prog w .any b0 t v) (h : DataW.Trod enc prog w 0 sp hd t v d ps) : ∃ ds, G ds ∧ RepA w NoM ds [v] := by
  obtain ⟨a, l, c, rfl⟩ := okWide_slice ht hv
  exact one_arg ho h
theorem u8_arg {H : Type} {enc : TypeId × Value → H} {w : World} {v : Value} {d : DataW H} {ps : List MemPlace} {t : TypeId} {b0 : Nat} {sp : Nat → Bool} {hd : Bool} (ht : prog.underlying t = some (.int .u8))
    (hv : Value.okWide prog w .any b0 t v) (h : DataW.Trod enc prog w 0 sp hd t v d ps) : ∃ e : Nat, RepD w NoM (.int .u8 e) v ∧ e ≤ 255 := by
  obtain ⟨i, rfl, _⟩ := open_int ht hv h
  obtain ⟨f, hf⟩ := h
  obtain ⟨n, e1, _, hw⟩ := DataW.trod_int ht hf
  have : i = n := by simpa [Value.cells] using e1
  subst this
  have := u8_of hw
  obtain ⟨m, rfl⟩ : ∃ m : Nat, i = m := ⟨i.toNat, by omega⟩
  exact ⟨m, rfl, by omega⟩
end
section
def qn32_0 : List Nat := [0, 1, 2, 6, 7, 8, 9, 10, 11, 12, 13, 14, 16, 17, 18, 19, 20, 21, 29, 33, 46, 54, 152]
def qn32_1 : Plan := lin [0, 8, 12, 16, 20, 5, 25, 30, 35, 36, 43]
def qn32_2 : Plan := lin [0, 4, 8, 12, 16, 24, 28, 32, 36, 21, 41, 46, 48, 52, 56, 60]
open Go.RowKit Nd
attribute [local irreducible] TR TC
theorem lfour_fn (gl : List (Nat × List D)) (v : Nat) (hv : v < 4294967296) : FnD prog gl 9 [.d (.int .i32 (s32 v))] (fun r => r = .d (.list 1 (dBs (four v)))) := by
  have c := rfour_fn gl v hv
  (refine y_enter func9 ntmps9 results9 fun w M => ?_)
  (repeat' first | refine yyp ?_; try refine s_bu ?_ ?_ <;> intro hb | refine yy ?_ | refine at_call 38 ?_; refine y_call (hc := c) ?_ | refine at_nil ?_; refine z_nil [0, 2, 3, 4] ?_ | refine tc_seq fun K hK => ?_ | apply_assumption -exfalso -symm)
  (refine tc_ret (y_ret ?_))
  rfl
theorem nodeBoots_fn (gl : List (Nat × List D)) (l : List (Nat × Nat)) (ho : okW l) (code : List UInt8) (link : Nat) (hlk : link ≤ 255) :
    FnD prog gl 3 [.d (.list 2 (l.map dW)), .d (.list 1 (dBs code)), .d (.int .u8 link)] (fun v => v = .d (.bool true)) := by
  have cH := head_fn gl
  have cN := nnew_fn gl
  have hll : (l.map dW).length = l.length := List.length_map _
  have hcl := dBs_len code
  (refine y_enter func3 ntmps3 results3 fun w M => ?_)
  (repeat' first | refine yyp ?_; try refine s_bu ?_ ?_ <;> intro hb | refine yy ?_ | refine yy2 ?_ ?_ <;> intro hcmp | refine at_call 7 ?_; refine y_call (hc := cH) ?_; try refine s_bu ?_ ?_ <;> intro hb | refine at_nil ?_; refine z_nil qn32_0 ?_ | refine tc_seq fun K hK => ?_ | refine tc_at 16 ?_; refine z_draw [8, 10] qn32_1 ?_ | refine tc_at 17 ?_; refine z_draw [8, 10] qn32_1 ?_ | refine tc_at 19 ?_; refine z_draw [8, 10] qn32_1 ?_ | refine tc_at 20 ?_; refine z_draw [] qn32_2 ?_ | apply_assumption -exfalso -symm)
  · (refine tc_ret (y_ret ?_))
    rfl
  · (refine tc_ret (y_ret ?_))
    rfl
  clear hll hcl
  refine y_famx (ι := List UInt8) [1, 31, 32, 33, 34, 35, 36] [] (fun c => [(1, .d (.list 1 (dBs c)))]) (fun _ => []) (fun c => c.length ≤ 255) (fun c => 2 - c.length) code (by omega)  fun c hc => ?_
  dsimp only [List.cons_append, List.nil_append] at hc ⊢
  have hcl := dBs_len c
  (repeat' first | refine tr_at 34 ?_; (refine z_lit 1034 ?_) | refine tr_at 38 ?_; refine y_callG (hc := cN) ?_ | refine tr_at 50 ?_; (refine z_make 1050 ?_) | refine tr_at 11 ?_; (refine z_alloc 910 ?_) | refine yyp ?_; try refine s_bu ?_ ?_ <;> intro hb | refine yyq ?_; try refine s_bu ?_ ?_ <;> intro hb | refine yy ?_ | refine yy2 ?_ ?_ <;> intro hcmp | (refine at_append ?_; first | (refine z_append (fun kv => ?_)) | (refine z_append_suf (fun sx sp kv hsx hsp hsl => ?_))) | refine at_nil ?_; refine z_nil qn32_0 ?_ | refine tc_seq fun K hK => ?_ | refine tc_at 16 ?_; refine z_draw [8, 10] qn32_1 ?_ | refine tc_at 17 ?_; refine z_draw [8, 10] qn32_1 ?_ | refine tc_at 19 ?_; refine z_draw [8, 10] qn32_1 ?_ | refine tc_at 20 ?_; refine z_draw [] qn32_2 ?_ | apply_assumption -exfalso -symm)
  · refine ⟨32 :: c, by simp only [List.length_cons]; omega, by simp only [List.length_cons]; omega, fun a w h => wk_tr (wk_slot 1 rfl (ToD.own rfl)) y_wk a w h⟩
  refine tc_share 1050 rfl ?_
  refine tc_wk (wk_slot 10 rfl (ToD.own rfl)) ?_
  rw [← zeros]
  refine tc_row (t := 12) (e := 5) (sz := 1) rfl rfl ?_
  refine tc_nilbox 910 911 7 (e := 5) (sz := 1) rfl rfl rfl ?_
  clear hcl cN
  obtain ⟨z, hz⟩ : ∃ z, z = List.replicate 1024 (0 : UInt8) := ⟨_, rfl⟩
  have hzl : z.length = 1024 := by rw [hz]; exact List.length_replicate
  rw [← hz]
  refine y_famx (ι := Nat × Nat × Nat × List D × List D × List UInt8) [10, 12, 13, 14, 15, 51, 52, 53, 54, 55, 56, 57, 58, 59, 60, 61, 62, 63, 64, 65, 66, 67, 68, 69, 70, 71, 72, 73, 74, 75, 76, 77, 78, 79, 80, 81, 82, 83, 84, 85, 86, 87, 88, 89, 90, 91, 92, 93, 94, 95, 96, 97, 98, 99, 100, 101, 102, 103, 104, 105, 106, 107, 108, 109, 110, 111, 112, 113, 114, 115, 116, 117, 118, 119, 120, 121, 122, 123, 124, 125] [910, 911, 12, 1050] (fun x => [(13, .d (.int .i64 x.1)), (12, .own 12 x.2.2.1), (10, .d (.list 1 (dBs x.2.2.2.2.2)))])
    (fun x => [(910, .box [.d (.int .u16 0), .d (.int .i64 0), .d (.bool false), .d (.bool false), .d (.int .u8 0), .d (.int .i64 0), .d (.int .u16 0), .own 911 x.2.1, .nils 1, .d (.bool false)]), (911, .row 5 1 true x.2.2.2.1 x.2.1), (12, .row 5 1 true x.2.2.2.2.1 x.2.2.1)])
    (fun x => x.1 ≤ l.length ∧ x.2.2.2.1 = dBs ((l.take x.1).flatMap wordB) ∧ x.2.2.2.2.1 = dBs (wantW z (l.take x.1)) ∧ x.2.2.2.2.2 = memW z (l.take x.1)) (fun x => l.length - x.1) (0, 0, 0, [], [], z) ⟨Nat.zero_le _, rfl, rfl, rfl⟩  fun ⟨i, kg, kw, g, wn, m⟩ ⟨hi, hg, hw, hm⟩ => ?_
  dsimp only [List.cons_append, List.nil_append] at hi hg hw hm ⊢
  have hgl : g.length = 14 * i := by rw [hg, dBs_len, words_len, List.length_take, Nat.min_eq_left hi]
  have hwl : wn.length = 4 * i := by rw [hw, dBs_len, wantW_len, List.length_take, Nat.min_eq_left hi]
  rcases Nat.lt_or_ge i l.length with hil | hil
  · have hxo := ho l[i] (List.getElem_mem hil)
    have hml : m.length = 1024 := by rw [hm, memW_len _ _ (by rw [hzl]), hzl]
    have a1 := lfour_fn gl l[i].1 hxo.1
    have a2 := lfour_fn gl l[i].2 hxo.2
    have a3 := rsetWord_fn gl m l[i].1 l[i].2 hxo.1 hxo.2 (by rw [hml]) (by omega)
    have hsl : (setWord m l[i].1 l[i].2).length = 1024 := by rw [setWord_len _ _ _ (by rw [hml]), hml]
    have a4 := rword_fn gl (setWord m l[i].1 l[i].2) l[i].1 hxo.1 (by rw [hsl]) (by omega)
    have a5 := lfour_fn gl (wordAt (setWord m l[i].1 l[i].2) l[i].1) (wordAt_lt _ _)
    have l3 : (dBs (four (wordAt (setWord m l[i].1 l[i].2) l[i].1))).length = 4 := rfl
    have l1 : (dBs (four l[i].1)).length = 4 := rfl
    have l2 : (dBs (four l[i].2)).length = 4 := rfl
    ((repeat' first | refine tr_at 59 ?_; (refine z_lit 2059 ?_) | refine tr_at 84 ?_; (refine z_lit 2084 ?_) | refine tc_at 22 ?_; refine halt ?_ | refine yyp ?_; try refine s_bu ?_ ?_ <;> intro hb | refine yy ?_ | (refine at_append ?_; first | (refine z_append (fun kv => ?_)) | (refine z_append_suf (fun sx sp kv hsx hsp hsl => ?_))) | refine at_call 9 ?_; refine y_call (hc := a1) ?_ | refine at_call 9 ?_; refine y_call (hc := a2) ?_ | refine at_call 10 ?_; refine y_call (hc := a3) ?_ | refine at_call 11 ?_; refine y_call (hc := a4) ?_ | refine at_nil ?_; refine z_nil qn32_0 ?_ | refine tc_seq fun K hK => ?_ | refine tc_at 16 ?_; refine z_draw [8, 10] qn32_1 ?_ | refine tc_at 17 ?_; refine z_draw [8, 10] qn32_1 ?_ | refine tc_at 19 ?_; refine z_draw [8, 10] qn32_1 ?_ | refine tc_at 20 ?_; refine z_draw [] qn32_2 ?_ | apply_assumption -exfalso -symm); all_goals try refine unhalt ?_)
    rename Nat => kg2
    (repeat' first | refine yyp ?_; try refine s_bu ?_ ?_ <;> intro hb | refine yy ?_ | (refine at_append ?_; first | (refine z_append (fun kv => ?_)) | (refine z_append_suf (fun sx sp kv hsx hsp hsl => ?_))) | refine at_call 9 ?_; refine y_call (hc := a5) ?_ | refine at_nil ?_; refine z_nil qn32_0 ?_ | refine tc_seq fun K hK => ?_ | refine tc_at 16 ?_; refine z_draw [8, 10] qn32_1 ?_ | refine tc_at 17 ?_; refine z_draw [8, 10] qn32_1 ?_ | refine tc_at 19 ?_; refine z_draw [8, 10] qn32_1 ?_ | refine tc_at 20 ?_; refine z_draw [] qn32_2 ?_ | apply_assumption -exfalso -symm)
    refine ⟨(i + 1, kg2, kv, g ++ [.int .u8 0] ++ dBs (four l[i].1) ++ dBs (four l[i].2) ++ [.int .u8 1] ++ dBs (four l[i].1), wn ++ dBs (four (wordAt (setWord m l[i].1 l[i].2) l[i].1)), setWord m l[i].1 l[i].2), ⟨by dsimp only; omega, ?_, ?_, ?_⟩, by dsimp only; omega, y_wk⟩
    · dsimp only
      rw [List.take_succ_eq_append_getElem hil, wordB_app, dBs_app, ← hg]
      exact wordB_d l[i] g
    · dsimp only
      rw [List.take_succ_eq_append_getElem hil, wantW_app, dBs_app, ← hw, ← hm]
    · dsimp only
      rw [List.take_succ_eq_append_getElem hil, memW_app, ← hm]
  · obtain rfl : i = l.length := by omega
    rw [List.take_length] at hg hw hm
    have hcl := dBs_len c
    (repeat' first | refine tr_at 131 ?_; (refine z_lit 3131 ?_) | refine yyp ?_; try refine s_bu ?_ ?_ <;> intro hb | refine yy ?_ | (refine at_append ?_; first | (refine z_append (fun kv => ?_)) | (refine z_append_suf (fun sx sp kv hsx hsp hsl => ?_))) | refine at_nil ?_; refine z_nil qn32_0 ?_ | refine tc_seq fun K hK => ?_ | refine tc_at 16 ?_; refine z_draw [8, 10] qn32_1 ?_ | refine tc_at 17 ?_; refine z_draw [8, 10] qn32_1 ?_ | refine tc_at 19 ?_; refine z_draw [8, 10] qn32_1 ?_ | refine tc_at 20 ?_; refine z_draw [] qn32_2 ?_ | apply_assumption -exfalso -symm)
    have hk4 : ((link : Nat) : Int) % 4 = ((link % 4 : Nat) : Int) := by omega
    rw [hk4]
    obtain ⟨k, hkd⟩ : ∃ k, k = link % 4 := ⟨_, rfl⟩
    have hk : k < 4 := by omega
    rw [← hkd]
    clear hk4 hkd
    have hc2 : 2 ≤ c.length := by omega
    have hl5 : l.length ≤ 5 := by omega
    obtain ⟨T, s, hT, hrun, hnone, hgot, hend⟩ := boots_lt hk l ho c hc2 hc
    rw [← hz] at hgot hend
    have hgive : g ++ [D.int .u8 (c.length : Nat)] ++ dBs c = dBs (l.flatMap wordB ++ UInt8.ofNat c.length :: c) := by
      have : dB (UInt8.ofNat c.length) = .int .u8 (c.length : Nat) := by
        unfold dB
        rw [UInt8.toNat_ofNat', Nat.mod_eq_of_lt (by omega)]
      rw [hg, dBs_app, dBs_cons, List.append_assoc, this]
      rfl
    rw [hgive]
    generalize l.flatMap wordB ++ UInt8.ofNat c.length :: c = gv at hrun
    refine tc_wk (wk_slot 12 rfl (ToD.own rfl)) ?_
    refine tc_wk (wk_dcell 910 7 (x := .list 1 (dBs gv)) rfl rfl (ToD.own rfl)) ?_
    refine tc_nilbox 910 905 8 (e := 5) (sz := 1) rfl rfl rfl ?_
    refine tc_wk (wk_unshare 905 rfl) ?_
    refine tc_wk (wk_hbox_in (n := 910) (q := 905) (i := 8) rfl rfl rfl rfl (by (repeat (first | exact Drop.nil | apply Drop.drop rfl | apply Drop.take rfl)); fail_if_success intros) rfl) ?_
    simp only [List.set_cons_succ, List.set_cons_zero]
    rw [hw, hm]
    have hnn : ∀ i, i ≤ T → (run k i ((⟨se0, gv, [], false⟩, new 1024) : Ho × NB)).2.run = none := fun i hi => run_none (T := T) (by rw [hrun]; exact hnone) hi
    have hro : ∀ t, t ≤ T → _ := fun t ht => run_holds gl k hk ((⟨se0, gv, [], false⟩, new 1024) : Ho × NB) lk0 (fits_new hk) ok0 rfl t (by omega) (fun i hi => hnn i (by omega))
    have hlast : both k s = run k (T + 1) ((⟨se0, gv, [], false⟩, new 1024) : Ho × NB) := by rw [run_succ, hrun]
    rw [hlast] at hgot hend
    clear hlast hrun hnone hg hw hm hgl hwl hgive
    refine y_famx (ι := Nat) (12 :: [16, 17, 18, 139, 140, 141, 142, 143, 144, 145, 146, 147, 148, 149, 150, 151, 152, 153, 154, 155, 156, 157, 158, 159, 160, 161, 162]) [910, 900, 901, 903, 911, 12, 3131] (fun t => [(18, .d (.int .i64 t)), (16, .d (.bool (run k t ((⟨se0, gv, [], false⟩, new 1024) : Ho × NB)).2.run.isSome)), (17, .d (.int .i64 (if (run k t ((⟨se0, gv, [], false⟩, new 1024) : Ho × NB)).2.run.isSome then (run k t ((⟨se0, gv, [], false⟩, new 1024) : Ho × NB)).2.link else 0))), (12, .d (.list 1 (dBs (wantW z l))))])
      (fun t => HH (run k t ((⟨se0, gv, [], false⟩, new 1024) : Ho × NB)).1 ++ NH (run k t ((⟨se0, gv, [], false⟩, new 1024) : Ho × NB)).2) (fun t => t ≤ T + 1) (fun t => T + 1 - t) 0 (Nat.zero_le _)  fun t ht => ?_
    generalize ((⟨se0, gv, [], false⟩, new 1024) : Ho × NB) = s0 at *
    dsimp only [List.cons_append, List.nil_append] at ht ⊢
    rcases Nat.lt_or_ge T t with h1 | h1
    · obtain rfl : t = T + 1 := by omega
      clear hro hnn
      rcases hq : run k (T + 1) s0 with ⟨h0, n0⟩
      rw [hq] at hgot hend
      dsimp only at hgot hend ⊢
      subst hend
      have hN : ((T + 1 : Nat) : Int) < 40 * ((c.length : Int) + 20 * (l.length : Int) + 10) := by omega
      obtain ⟨a0, b0, c0, d0, hf⟩ := four_at hk ⟨⟨[false], false, none, []⟩, false, none⟩
      rw [hf]
      have hml : (memW z l).length = 1024 := by rw [memW_len _ _ (by rw [hzl]), hzl]
      have cW := rwrite_fn gl (memW z l) c (by omega) (by omega) (by omega)
      obtain ⟨mm, hM⟩ : ∃ mm, mm = put (memW z l) 72 c := ⟨_, rfl⟩
      have hmm : mm.length = 1024 := by rw [hM, put_len _ _ _ (by omega), hml]
      rw [← hM] at cW ⊢
      clear hM hml hzl
      have cS := state_fn gl k mm a0 b0 c0 d0 (some (-2147483648 + 72 + ((c.length + 3) / 4 * 4 : Nat), -2147483648 + 16 + 4 * (k : Int))) (by omega) (by omega)
      have cE := rsame_list gl mm
      have hwd : (-2147483648 + 72 + ((c.length + 3) / 4 * 4 : Nat) : Int) = -2147483576 + (((c.length + 3) / 4 * 4 : Nat) : Int) := by omega
      simp only [Option.isSome_some, if_true]
      ((repeat' first | refine tc_at 33 ?_; refine halt ?_ | refine yyp ?_; try refine s_bu ?_ ?_ <;> intro hb | refine yy ?_ | refine at_call 14 ?_; refine y_call (hc := cW) ?_ | refine at_nil ?_; refine z_nil qn32_0 ?_ | refine tc_seq fun K hK => ?_ | refine tc_at 16 ?_; refine z_draw [8, 10] qn32_1 ?_ | refine tc_at 17 ?_; refine z_draw [8, 10] qn32_1 ?_ | refine tc_at 19 ?_; refine z_draw [8, 10] qn32_1 ?_ | refine tc_at 20 ?_; refine z_draw [] qn32_2 ?_ | apply_assumption -exfalso -symm); all_goals try refine unhalt ?_)
      refine tc_wk (wk_hbox_out (n := 910) (q := 905) rfl rfl) ?_
      refine tc_share 905 rfl ?_
      refine tc_wk (wk_dcell 910 8 (x := .list 1 (dBs h0.got)) rfl rfl (ToD.own rfl)) ?_
      rw [hgot]
      refine tc_wk (wk_hbox_out (n := 900) (q := 902) rfl rfl) ?_
      refine tc_share 903 rfl ?_
      refine tc_fcell 900 28 901 rfl rfl rfl (ns := [901, 903]) (.cons (ToD.own rfl) .nil) rfl (by (repeat (first | exact Drop.nil | apply Drop.drop rfl | apply Drop.take rfl)); fail_if_success intros) rfl rfl rfl ?_
      refine tc_wk (wk_hbox_in (n := 900) (q := 902) (i := 115) rfl rfl rfl rfl (by (repeat (first | exact Drop.nil | apply Drop.drop rfl | apply Drop.take rfl)); fail_if_success intros) rfl) ?_
      simp only [stateD, coreD, four_links, lkD, seD, dBs_nil, List.cons_append, List.nil_append, List.append_assoc] at cS
      (repeat' first | refine tr_at 170 ?_; refine y_callE (hc := cS) ?_ | refine tr_at 19 ?_; (refine z_alloc 5019 ?_) | refine tr_at 21 ?_; (refine z_alloc 5021 ?_) | refine yyp ?_; try refine s_bu ?_ ?_ <;> intro hb | refine yy ?_ | refine yy2 ?_ ?_ <;> intro hcmp | refine at_call 16 ?_; refine y_call (hc := cE) ?_; try refine s_bu ?_ ?_ <;> intro hb | refine at_call 7 ?_; refine y_call (hc := cH) ?_; try refine s_bu ?_ ?_ <;> intro hb | refine at_nil ?_; refine z_nil qn32_0 ?_ | refine tc_seq fun K hK => ?_ | refine tc_at 16 ?_; refine z_draw [8, 10] qn32_1 ?_ | refine tc_at 17 ?_; refine z_draw [8, 10] qn32_1 ?_ | refine tc_at 19 ?_; refine z_draw [8, 10] qn32_1 ?_ | refine tc_at 20 ?_; refine z_draw [] qn32_2 ?_ | apply_assumption -exfalso -symm)
      · (refine tc_ret (y_ret ?_))
        rfl
      · exact absurd rfl hcmp
    · obtain ⟨q1, q2, lt, q3, q4⟩ := hro t h1
      obtain ⟨l', hb⟩ := hboth_fn gl k hk (run k t s0) lt q1 (q4 (hnn t h1)) (by omega)
      have cS := hb.fn
      have hls := hb.ls
      rw [← run_succ] at cS hls
      rw [hnn t h1]
      obtain ⟨a0, b0, c0, d0, hf0⟩ := four_at hk lt
      obtain ⟨a1, b1, c1, d1, hf1⟩ := four_at hk l'
      rcases hq : run k t s0 with ⟨h0, ⟨nl, nb, no, nm, ns, nr⟩⟩
      rcases hq1 : run k (t + 1) s0 with ⟨h2, ⟨nl1, nb1, no1, nm1, ns1, nr1⟩⟩
      rw [hq] at cS q3
      rw [hq1] at cS hls
      have cB := booted_fn gl k hk nl1 nb1 no1 nm1 l' nr1
      rw [hf1] at cB hls
      rw [hf0] at q3
      dsimp only at cS cB hls q3 ⊢
      subst hls q3
      have hN : (t : Int) < 40 * ((c.length : Int) + 20 * (l.length : Int) + 10) := by omega
      clear hb hro hnn hgot hend q4 q1
      (repeat' first | refine tr_at 157 ?_; refine y_callE (hc := cS) ?_ | refine tr_at 160 ?_; refine y_callE (hc := cB) ?_ | refine yyp ?_; try refine s_bu ?_ ?_ <;> intro hb | refine yy ?_ | refine at_nil ?_; refine z_nil qn32_0 ?_ | refine tc_seq fun K hK => ?_ | refine tc_at 16 ?_; refine z_draw [8, 10] qn32_1 ?_ | refine tc_at 17 ?_; refine z_draw [8, 10] qn32_1 ?_ | refine tc_at 19 ?_; refine z_draw [8, 10] qn32_1 ?_ | refine tc_at 20 ?_; refine z_draw [] qn32_2 ?_ | apply_assumption -exfalso -symm)
      all_goals
        refine ⟨t + 1, by omega, by omega, ?_⟩
        dsimp only
        rw [hq1]
        dsimp only
        rw [hb]
        exact y_wk
end
end Go.Proofs.YtjhbglklcddekaaGreatDoor
