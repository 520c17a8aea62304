/- Functions and contracts that FnMagazines reaches (20 of 24). -/
import Derived.Test.YtdgglhfnlljmeaaQFnMagazinesx18
namespace Go.Proofs.Ytdgglhfnlljmeaa.PFnMagazines
open Go.RowKit Go.Proofs.YtdgglhfnlljmeaaW.PrintWords Go.Proofs.YtdgglhfnlljmeaaW.PrintLast Go.Proofs.YtdgglhfnlljmeaaW.PrintMore
attribute [local go_sem] max2_int min2_int max_two min_two max_three min_three max_four min_four   -- for this text's walks alone
set_option linter.unusedVariables false
set_option linter.unusedSimpArgs false

/-! ### spec_l01Own: function 86 -/
def spec_l01Own.f (l0 : List Int) : Option (List Int) := (some (([] : List Int) : List Int)).bind fun y493 => (if y493.length + l0.length < 17592186044416 then (some (y493 ++ l0)) else (none))
set_option maxHeartbeats 8000000 in
set_option maxRecDepth 100000 in
theorem spec_l01Own.calls (A0 : Option Addr) (c0 : Nat) (l0 : List Int) (r : List Int) (w : World) (hr0 : Kd.C (Kd.int .i64) w A0 l0.length l0) (hc0 : l0.length ≤ c0) (h : spec_l01Own.f l0 = some r) :
  Calls Try.prog 86 #[.slice A0 l0.length c0] w fun e w' => ∃ v0_ : Value, e = .returned (v0_) ∧ Kd.R (Kd.int .i64) 2 w' w.heap.size (fun _ => True) v0_ r ∧ Below w.heap.size w w' := by
 have HR0 := jA hr0
 have HC0 := jA hc0
 clear hr0 hc0
 have HB := jA (Below.refl w.heap.size w)
 have H := h
 unfold spec_l01Own.f at H
 clear h
 obtain ⟨y493, hy493⟩ : ∃ y_ : List Int, y_ = (([] : List Int)) := ⟨_, rfl⟩
 replace H : (if y493.length + l0.length < 17592186044416 then (some (y493 ++ l0)) else (none)) = some r := by first | (rw [hy493]; with_reducible exact H) | (have H2_ := (Option.bind_some _ _).symm.trans H; rw [hy493]; with_reducible exact H2_) | (have H2_ := (Option.bind_some _ _).symm.trans H; with_reducible exact H2_) | with_reducible exact H | (rw [hy493]; exact H) | exact H
 have Ny493 := jA hy493
 clear hy493
 by_cases c2 : y493.length + l0.length < 17592186044416
 ·rw [if_pos c2] at H
  have LMc2 := jA c2
  clear c2
  obtain ⟨y496, hy496⟩ : ∃ y_ : List Int, y_ = (y493 ++ l0) := ⟨_, rfl⟩
  replace H : (some y496) = some r := by first | (rw [hy496]; with_reducible exact H) | (have H2_ := (Option.bind_some _ _).symm.trans H; rw [hy496]; with_reducible exact H2_) | (have H2_ := (Option.bind_some _ _).symm.trans H; with_reducible exact H2_) | with_reducible exact H | (rw [hy496]; exact H) | exact H
  have Ny496 := jA hy496
  clear hy496
  obtain rfl := jK H
  go_enter Try.func86, Try.ntmps86
  go_wp2_with (first | ((with_reducible refine jL (N := 3) rfl ?_); refine Kd.R_lit (Kd.int .i64) _ 2 ?hg (N := 3) ?hd (xs := ([] : List Int)) (inner := []) (ok := fun _ => True) (okp := fun _ => True) ?hr ?hp (fun _ hk => hk) trivial (Below.refl _ _) (Nat.le_refl _) (by simp) ?_; (case hd => rfl); (case hg => rfl); (case hr => first | (go_simp; done) | (go_simp; rfl)); (case hp => exact (Reps.none _ _)); intro v494 w3 ho4 hb hg_ hnew_; clear hg_ hnew_; (first | rw [← Ny493.out] at ho4 | (simp only [Int.reduceToNat] at ho4; rw [← Ny493.out] at ho4)); have HO495 := jA (jU ho4 (jW (zb0 HB))); replace HB := zS0 HB hb; clear hb ho4) | ((with_reducible refine gate_builtin (b := .append) (xs := #[.tmp 3, .tmp 4]) rfl ?_); at_builtin; refine Kd.R_append_rows (Kd.int .i64) (w0 := w) w.heap.size rfl (.tmp 3) (.tmp 4) 23 2 (.int .i64 0) 8 rfl Try.underlying23 info2 rfl (by decide) (by omega) v494 y493 l0 _ _ _ (fun _ => True) (fun _ => False) rfl rfl ?aO ?aR (fun _ _ h => h) (fun _ h => h.elim) ?aF ?aB ?aS ?aL ?_; (case aR => repeat (first | exact HR0.out | exact (Kd.C_below HR0.out HB.out) | (with_reducible refine Kd.C_alloc ?_ _) | (with_reducible refine Kd.C_drewN ?_ _) | (with_reducible refine Kd.C_drew ?_))); (case aB => exact (zb0 HB)); (case aF => exact (fun _ _ => trivial)); (case aO => exact (zo HO495)); (case aS => exact (jW (zb0 HB))); (case aL => have := LMc2.out; omega); intro v497 w5 ho hb hg hat; rw [← Ny496.out] at ho; replace HB := jA (hb); have HO498 := jA (ho); clear HO495; clear ho hb hg hat))
  go_ret
  exact ⟨_, ze, zo HO498, zb0 HB⟩
 ·rw [if_neg c2] at H
  exact absurd H (by simp)

/-! ### spec_l26With: function 72 -/
def spec_l26With.f (a0_0 : Int) (l0_1 : List Int) (a1 : Int) (a2 : Int) : Option (Int × List Int) := (spec_l01Own.f l0_1).bind fun t501 => (if 0 ≤ a1 then (if a1 < (t501.length : Int) then (some (a0_0, (t501.set (a1 : Int).toNat (wrap64 ((rd t501 a1) + a2))))) else (none)) else (none))
def spec_l26With.T1 : Bool × List (List Nat × List Nat) := (true, [([], []), ([0], [0]), ([], []), ([2], [2]), ([3], [3]), ([1, 4], [1, 4]), ([], []), ([6, 5, 4, 0, 1, 2, 3, 4, 5, 6], [5, 6])])
def spec_l26With.B1 : List Nat := [0, 1, 0, 4, 12, 31, 0, 127]
theorem spec_l26With.tab1 : rtab .any (opsOf Try.f72 1) = spec_l26With.T1 := by kernel_rfl
theorem spec_l26With.bits1 : waitsOk spec_l26With.T1.2 spec_l26With.B1 = true := by kernel_rfl
def spec_l26With.T2 : Bool × List (List Nat × List Nat) := (true, [([], []), ([0], [0]), ([], []), ([], []), ([3], [3]), ([], []), ([4, 5], [4, 5]), ([6], [6]), ([], []), ([7, 8], [7, 8]), ([1, 2, 0, 1, 2, 3, 4, 5, 6, 7, 8, 9], [1, 2]), ([10, 9, 0, 1, 2, 3, 4, 5, 6, 7, 8, 9], [9, 10])])
def spec_l26With.B2 : List Nat := [0, 1, 0, 0, 8, 0, 56, 120, 0, 504, 1023, 2047]
theorem spec_l26With.tab2 : rtab .any (opsOf Try.f72 2) = spec_l26With.T2 := by kernel_rfl
theorem spec_l26With.bits2 : waitsOk spec_l26With.T2.2 spec_l26With.B2 = true := by kernel_rfl
set_option maxHeartbeats 8000000 in
set_option maxRecDepth 100000 in
theorem spec_l26With.calls (a0_0 : Int) (A0_1 : Option Addr) (c0_1 : Nat) (l0_1 : List Int) (a1 : Int) (a2 : Int) (r1 : Int) (r2 : List Int) (w : World) (hr0_1 : Kd.C (Kd.int .i64) w A0_1 l0_1.length l0_1) (hc0_1 : l0_1.length ≤ c0_1) (h : spec_l26With.f a0_0 l0_1 a1 a2 = some (r1, r2)) :
  Calls Try.prog 72 #[.agg #[.int .i64 a0_0, .slice A0_1 l0_1.length c0_1], .int .i64 a1, .int .i64 a2] w fun e w' => ∃ v1_ : Value, e = .returned (.agg #[.int .i64 r1, v1_]) ∧ Kd.R (Kd.int .i64) 2 w' w.heap.size (fun _ => True) v1_ r2 ∧ Below w.heap.size w w' := by
 have hu28 := Try.underlying28
 have HR0_1 := jA hr0_1
 have HC0_1 := jA hc0_1
 clear hr0_1 hc0_1
 have HB := jA (Below.refl w.heap.size w)
 have H := h
 unfold spec_l26With.f at H
 clear h
 replace H := jB.mp H
 obtain ⟨t501, A40, H⟩ := H
 try dsimp only at H
 have A4 := jA A40
 clear A40
 by_cases c5 : 0 ≤ a1
 ·rw [if_pos c5] at H
  have c5b0 : decide (0 ≤ a1) = true := jJ c5
  clear c5
  by_cases c6 : a1 < (t501.length : Int)
  ·rw [if_pos c6] at H
   have c6b0 : decide (a1 < (t501.length : Int)) = true := jJ c6
   clear c6
   obtain ⟨y506, hy506⟩ : ∃ y_ : List Int, y_ = (t501.set (a1 : Int).toNat (wrap64 ((rd t501 a1) + a2))) := ⟨_, rfl⟩
   replace H : (some (a0_0, y506)) = some (r1, r2) := by first | (rw [hy506]; with_reducible exact H) | (have H2_ := (Option.bind_some _ _).symm.trans H; rw [hy506]; with_reducible exact H2_) | (have H2_ := (Option.bind_some _ _).symm.trans H; with_reducible exact H2_) | with_reducible exact H | (rw [hy506]; exact H) | exact H
   have Ny506 := jA hy506
   clear hy506
   simp only [jN, jO] at H
   obtain ⟨rfl, rfl⟩ := H
   go_enter Try.func72, Try.ntmps72
   try go_wp2_with (first | ((with_reducible refine jL (N := 3) rfl ?_); refine zE 3 #[.int .i64 a0_0, .slice A0_1 l0_1.length c0_1] 28 ?_; intro gb499 hg w8 hbox hb; have BK499 := jA (hbox); have GW499 := zg0 hg HB; have GE499 := zg0 hg HB; replace HB := zS0 HB hb; clear hb hbox hg) | ((with_reducible refine jL (N := 6) rfl ?_); refine zE 6 #[.int .i64 0, .slice none 0 0] 28 ?_; intro gb500 hg w9 hbox hb; have BK500 := jA (hbox); have GW500 := zg1 hg HB GE499; have GE500 := zg1 hg HB GE499; replace HB := zS1 HB GE499 hb; have NB499_500 := zn hg BK499; replace BK499 := zB BK499 hb; have NB500_499 := jA NB499_500.out.symm; clear hb hbox hg))
   replace BK499 := jA (blk_drew BK499.out)
   replace BK500 := jA (blk_drew BK500.out)
   replace HB := jA (below_drew1 HB.out)
   refine start_ (n := 8) (S := fun w' => w'.cell? ⟨gb499, 0, none⟩ = some (.int .i64 a0_0) ∧ w'.cell? ⟨gb499, 1, none⟩ = some (.slice A0_1 l0_1.length c0_1)) (ds := []) m8_0 zr rfl rfl ⟨(jG BK499.out 0).trans rfl, (jG BK499.out 1).trans rfl⟩ (fun hHeld => ?_); refine with_tabW spec_l26With.tab1 spec_l26With.bits1 (fun HT_ HW_ => ?_)
   generalize w9.drew = w10 at BK499 BK500 HB hHeld ⊢
   refine zp HT_ 0 8 m8_80 ?_
   refine zp HT_ 2 10 m8_a0 ?_
   refine zt2 HT_ HW_ hHeld 1 9 m8_e0 ?_
   refine zt2 HT_ HW_ hHeld 3 11 m8_f0 ?_
   refine join_ (σ := Value × Nat) 1 m8_fe (fun s_ => [(12, s_.1), (7, .pointer (some ⟨s_.2, 0, none⟩)), (13, .agg #[.int .i64 a0_0, s_.1])]) (fun s_ w' => (w'.cell? ⟨gb499, 0, none⟩ = some (.int .i64 a0_0) ∧ w'.cell? ⟨gb499, 1, none⟩ = some (.slice A0_1 l0_1.length c0_1)) ∧ (Kd.R (Kd.int .i64) 2 w' w.heap.size (fun _ => True) s_.1 t501) ∧ (w'.heap[gb499]? = some (.cells #[.int .i64 a0_0, .slice A0_1 l0_1.length c0_1] 28 (0, 0))) ∧ (w'.heap[gb500]? = some (.cells #[.int .i64 0, .slice none 0 0] 28 (0, 0))) ∧ (w'.heap[s_.2]? = some (.cells #[.int .i64 0, .slice none 0 0] 28 (0, 0))) ∧ (w.heap.size ≤ s_.2) ∧ (w.heap.size ≤ s_.2) ∧ (gb499 ≠ s_.2) ∧ (s_.2 ≠ gb499) ∧ (gb500 ≠ s_.2) ∧ (s_.2 ≠ gb500) ∧ (Below w.heap.size w w')) ?_ ?_
   rotate_left
   ·intro hCont
    refine two_ (i := 4) (j := 6) (Ni := some 12) (Nj := some 7) m8_f8 m8_f2 rfl rfl rfl rfl (two_of HT_.out zr) (by decide) (by decide) (fun K hK => ?_) (fun K hK => ?_)
    ·skip
     refine goes_ Try.func86 zr rfl #[.slice A0_1 l0_1.length c0_1] (by rfl) rfl rfl zm ?_
     with_reducible refine (spec_l01Own.calls _ _ l0_1 t501 _ ?side1 ?side2 A4.out).mono ?_
     (case side1 => exact zs HR0_1 HB)
     (case side2 => exact HC0_1.out)
     rintro e w11 ⟨v502, rfl, ho0, hb⟩
     refine ⟨_, rfl, ?_⟩
     have HO503 := jA (jU ho0 (jW (zb2 HB GE499 GE500)))
     replace BK499 := zB BK499 hb
     replace BK500 := zB BK500 hb
     replace HB := zS2 HB GE499 GE500 hb
     (try clear hb)
     (try clear hb2)
     (try clear hk)
     (try clear hi)
     (try clear ho0)
     obtain ⟨Ao12, co12, eo12⟩ := Kd.R_slice HO503.out
     (first | subst eo12 | (injection eo12 with f1_ f2_ f3_; have f4_ := f1_.symm; have f5_ := f3_.symm; clear f1_ f2_ f3_; subst f4_; subst f5_))
     refine hK.out _ _ ⟨(jG BK499.out 0).trans rfl, (jG BK499.out 1).trans rfl⟩ (fun hHeld => ?_)
     clear hK K
     refine norm_ (a' := ?_) ?_ ?_
     rotate_left
     ·show Act.put _ (some 12) _ = _
      simp only [Act.put, jE, jH, jI, i64_w, i32_w]
      rfl
     refine zp HT_ 5 13 m8_fc ?_
     refine one_ (i := 6) (N := some 7) m8_fe rfl rfl (one_of HT_.out zr) (by decide) (fun K hK => ?_)
     refine box_step ?hg (N := 7) ?hd (cs := #[.int .i64 0, .slice none 0 0]) (t := 28) ?hr ?_; (case hd => rfl); (case hg => rfl); (case hr => first | (go_simp; done) | (go_simp; rfl))
     intro gb504 hg w13 hbox hb
     replace HO503 := jA (jF (zo HO503) hb)
     have BK504 := jA (hbox)
     have GW504 := zg2 hg HB GE499 GE500
     have GE504 := zg2 hg HB GE499 GE500
     replace HB := zS2 HB GE499 GE500 hb
     have NB499_504 := zn hg BK499
     have NB504_499 := zN hg BK499
     replace BK499 := zB BK499 hb
     have NB500_504 := zn hg BK500
     have NB504_500 := zN hg BK500
     replace BK500 := zB BK500 hb
     clear hb hbox hg
     refine hK.out _ _ ⟨(jG BK499.out 0).trans rfl, (jG BK499.out 1).trans rfl⟩ (fun hHeld => ?_)
     clear hK K
     refine norm_ (a' := ?_) ?_ ?_
     rotate_left
     ·show Act.put _ (some 7) _ = _
      simp only [Act.put, jE, jH, jI, i64_w, i32_w]
      rfl
     exact norm_ (by simp only [putAll, Act.put, jE, jH, jI]) (hCont (.slice Ao12 t501.length co12, gb504) _ ⟨hHeld, (zo HO503), (zk BK499), (zk BK500), (zk BK504), GW504.out, GE504.out, NB499_504.out, NB504_499.out, NB500_504.out, NB504_500.out, (zb3 HB GE499 GE500 GE504)⟩)
    ·skip
     refine box_step ?hg (N := 7) ?hd (cs := #[.int .i64 0, .slice none 0 0]) (t := 28) ?hr ?_; (case hd => rfl); (case hg => rfl); (case hr => first | (go_simp; done) | (go_simp; rfl))
     intro gb504 hg w11 hbox hb
     have BK504 := jA (hbox)
     have GW504 := zg2 hg HB GE499 GE500
     have GE504 := zg2 hg HB GE499 GE500
     replace HB := zS2 HB GE499 GE500 hb
     have NB499_504 := zn hg BK499
     have NB504_499 := zN hg BK499
     replace BK499 := zB BK499 hb
     have NB500_504 := zn hg BK500
     have NB504_500 := zN hg BK500
     replace BK500 := zB BK500 hb
     clear hb hbox hg
     refine hK.out _ _ ⟨(jG BK499.out 0).trans rfl, (jG BK499.out 1).trans rfl⟩ (fun hHeld => ?_)
     clear hK K
     refine norm_ (a' := ?_) ?_ ?_
     rotate_left
     ·show Act.put _ (some 7) _ = _
      simp only [Act.put, jE, jH, jI, i64_w, i32_w]
      rfl
     refine one_ (i := 4) (N := some 12) m8_fa rfl rfl (one_of HT_.out zr) (by decide) (fun K hK => ?_)
     refine goes_ Try.func86 zr rfl #[.slice A0_1 l0_1.length c0_1] (by rfl) rfl rfl zm ?_
     with_reducible refine (spec_l01Own.calls _ _ l0_1 t501 _ ?side1 ?side2 A4.out).mono ?_
     (case side1 => exact zs HR0_1 HB)
     (case side2 => exact HC0_1.out)
     rintro e w12 ⟨v502, rfl, ho0, hb⟩
     refine ⟨_, rfl, ?_⟩
     have HO503 := jA (jU ho0 (jW (zb3 HB GE499 GE500 GE504)))
     replace BK499 := zB BK499 hb
     replace BK500 := zB BK500 hb
     replace BK504 := zB BK504 hb
     replace HB := zS3 HB GE499 GE500 GE504 hb
     (try clear hb)
     (try clear hb2)
     (try clear hk)
     (try clear hi)
     (try clear ho0)
     obtain ⟨Ao13, co13, eo13⟩ := Kd.R_slice HO503.out
     (first | subst eo13 | (injection eo13 with f1_ f2_ f3_; have f4_ := f1_.symm; have f5_ := f3_.symm; clear f1_ f2_ f3_; subst f4_; subst f5_))
     refine hK.out _ _ ⟨(jG BK499.out 0).trans rfl, (jG BK499.out 1).trans rfl⟩ (fun hHeld => ?_)
     clear hK K
     refine norm_ (a' := ?_) ?_ ?_
     rotate_left
     ·show Act.put _ (some 12) _ = _
      simp only [Act.put, jE, jH, jI, i64_w, i32_w]
      rfl
     refine zp HT_ 5 13 m8_fe ?_
     exact norm_ (by simp only [putAll, Act.put, jE, jH, jI]) (hCont (.slice Ao13 t501.length co13, gb504) _ ⟨hHeld, (zo HO503), (zk BK499), (zk BK500), (zk BK504), GW504.out, GE504.out, NB499_504.out, NB504_499.out, NB500_504.out, NB504_500.out, (zb3 HB GE499 GE500 GE504)⟩)
   rintro ⟨v502, gb504⟩ w14 ⟨hS_, h0_, h1_, h2_, h3_, h4_, h5_, h6_, h7_, h8_, h9_, h10_⟩
   have HO503 : Aside0 (Kd.R (Kd.int .i64) 2 w14 w.heap.size (fun _ => True) v502 t501) := ⟨h0_⟩
   replace BK499 : Aside0 (w14.heap[gb499]? = some (.cells #[.int .i64 a0_0, .slice A0_1 l0_1.length c0_1] 28 (0, 0))) := ⟨h1_⟩
   replace BK500 : Aside0 (w14.heap[gb500]? = some (.cells #[.int .i64 0, .slice none 0 0] 28 (0, 0))) := ⟨h2_⟩
   have BK504 : Aside0 (w14.heap[gb504]? = some (.cells #[.int .i64 0, .slice none 0 0] 28 (0, 0))) := ⟨h3_⟩
   have GW504 : Aside0 (w.heap.size ≤ gb504) := ⟨h4_⟩
   have GE504 : Aside0 (w.heap.size ≤ gb504) := ⟨h5_⟩
   have NB499_504 : Aside0 (gb499 ≠ gb504) := ⟨h6_⟩
   have NB504_499 : Aside0 (gb504 ≠ gb499) := ⟨h7_⟩
   have NB500_504 : Aside0 (gb500 ≠ gb504) := ⟨h8_⟩
   have NB504_500 : Aside0 (gb504 ≠ gb500) := ⟨h9_⟩
   replace HB : Aside0 (Below w.heap.size w w14) := ⟨h10_⟩
   clear h0_ h1_ h2_ h3_ h4_ h5_ h6_ h7_ h8_ h9_ h10_
   have hHeld : w14.cell? ⟨gb499, 0, none⟩ = some (.int .i64 a0_0) ∧ w14.cell? ⟨gb499, 1, none⟩ = some (.slice A0_1 l0_1.length c0_1) := hS_
   obtain ⟨Ao15, co15, eo15⟩ := Kd.R_slice HO503.out
   (first | subst eo15 | (injection eo15 with f1_ f2_ f3_; have f4_ := f1_.symm; have f5_ := f3_.symm; clear f1_ f2_ f3_; subst f4_; subst f5_))
   refine norm_ (a' := ?_) ?_ ?_
   rotate_left
   ·simp only [putAll, Act.put, jE, jH, jI]
    rfl
   refine one_ (i := 7) (N := none) m8_ff rfl rfl (one_of HT_.out zr) (by decide) (fun K hK => ?_)
   have hs16 : w14.cell? ⟨gb504, 0, none⟩ = some (.int .i64 0) := (jG BK504.out 0).trans rfl
   have hfs16 := blk_frozen BK504.out 0
   have hns16_0 := NB499_504.out
   have hns16_1 := NB500_504.out
   have hms16_0 := NB504_499.out
   have hms16_1 := NB504_500.out
   have hs17 : w14.cell? ⟨gb504, 1, none⟩ = some (.slice none 0 0) := (jG BK504.out 1).trans rfl
   have hfs17 := blk_frozen BK504.out 1
   have hns17_0 := NB499_504.out
   have hns17_1 := NB500_504.out
   have hms17_0 := NB504_499.out
   have hms17_1 := NB504_500.out
   refine skip_ (w1 := ?_) (by rfl) rfl ?_ ?_
   rotate_left
   ·go_simp
    rfl
   refine hK.out _ _ ⟨((jP (p := ⟨gb504, _, none⟩) NB499_504.out _).trans (((jP (p := ⟨gb504, _, none⟩) NB499_504.out _).trans (hHeld.1)))), ((jP (p := ⟨gb504, _, none⟩) NB499_504.out _).trans (((jP (p := ⟨gb504, _, none⟩) NB499_504.out _).trans (hHeld.2))))⟩ (fun hHeld => ?_)
   clear hK K
   refine done_ (done_of HT_.out zr) ?_
   try go_wp2
   have n0_ : Aside0 (Kd.R (Kd.int .i64) 2 ((w14.setCell ⟨gb504, 0, none⟩ (.int .i64 a0_0)).setCell ⟨gb504, 1, none⟩ (.slice Ao15 t501.length co15)) w.heap.size (fun _ => True) (.slice Ao15 t501.length co15) t501) := ⟨zT HO503 BK504⟩
   have n1_ : Aside0 (((w14.setCell ⟨gb504, 0, none⟩ (.int .i64 a0_0)).setCell ⟨gb504, 1, none⟩ (.slice Ao15 t501.length co15)).heap[gb499]? = some (.cells #[.int .i64 a0_0, .slice A0_1 l0_1.length c0_1] 28 (0, 0))) := ⟨zQ1 BK499 NB499_504⟩
   have n2_ : Aside0 (((w14.setCell ⟨gb504, 0, none⟩ (.int .i64 a0_0)).setCell ⟨gb504, 1, none⟩ (.slice Ao15 t501.length co15)).heap[gb500]? = some (.cells #[.int .i64 0, .slice none 0 0] 28 (0, 0))) := ⟨zQ1 BK500 NB500_504⟩
   have n3_ : Aside0 (((w14.setCell ⟨gb504, 0, none⟩ (.int .i64 a0_0)).setCell ⟨gb504, 1, none⟩ (.slice Ao15 t501.length co15)).heap[gb504]? = some (.cells #[.int .i64 a0_0, .slice Ao15 t501.length co15] 28 (0, 0))) := ⟨zP0 BK504⟩
   have n4_ : Aside0 (Below w.heap.size w ((w14.setCell ⟨gb504, 0, none⟩ (.int .i64 a0_0)).setCell ⟨gb504, 1, none⟩ (.slice Ao15 t501.length co15))) := ⟨zb3 HB GE499 GE500 GE504⟩
   (try clear HO503)
   (try clear BK499)
   (try clear BK500)
   (try clear BK504)
   (try clear HB)
   generalize ((w14.setCell ⟨gb504, 0, none⟩ (.int .i64 a0_0)).setCell ⟨gb504, 1, none⟩ (.slice Ao15 t501.length co15)) = w18 at n0_ n1_ n2_ n3_ n4_ ⊢
   have HO503 := n0_
   have BK499 := n1_
   have BK500 := n2_
   have BK504 := n3_
   have HB := n4_
   clear n0_ n1_ n2_ n3_ n4_
   replace HO503 := jA (jR HO503.out)
   replace BK499 := jA (blk_drew BK499.out)
   replace BK500 := jA (blk_drew BK500.out)
   replace BK504 := jA (blk_drew BK504.out)
   replace HB := jA (below_drew1 HB.out)
   have p505 : 0 ≤ (a1 : Int) := jC za
   have q505 : a1 < (t501.length : Int) := jC za
   obtain ⟨ad505, e505, hx505_0⟩ := Kd.at_int (jM HO503.out).2.2 a1 p505 q505
   cases e505
   replace p505 := eq_true p505
   replace q505 := eq_true q505
   have p7 : 0 ≤ (a1 : Int) := jC za
   have q7 : (a1 : Int) < ((t501.length : Int) : Int) := jC za
   obtain ⟨go7, co7, eo7, gb7, gl7, cl7, HG7⟩ := Kd.R_form HO503.out (by omega)
   (first | cases eo7 | (injection eo7 with ea_ en_ ec_; (first | subst ea_ | (injection ea_ with ea_; subst ea_)); subst ec_; clear en_))
   have GB7 := jA gb7
   have GG7 := jA HG7
   clear gb7 gl7 HG7
   (first | simp only [add_plain] at hx505_0 | skip)
   obtain ⟨hx7_0, hf7_0⟩ := Kd.R_celln 0 HO503.out (a1 : Int) p7 q7
   replace p7 := eq_true p7
   replace q7 := eq_true q7
   have HP20 := Kd.R_putn HO503.out (a1 : Int) (wrap64 ((rd t501 a1) + a2))
   rw [← Ny506.out] at HP20
   have HQ20 := jA HP20
   clear HP20
   refine start_ (n := 12) (S := fun w' => w'.cell? ⟨gb504, 0, none⟩ = some (.int .i64 a0_0) ∧ w'.cell? ⟨gb504, 1, none⟩ = some (.slice (some ⟨go7, 0, none⟩) t501.length co15) ∧ w'.cell? ⟨go7, (a1).toNat, none⟩ = some (.int .i64 (rd t501 a1))) (ds := [11]) #[false, false, false, false, false, false, false, false, false, false, false, false] zr rfl rfl ⟨(jG BK504.out 0).trans rfl, (jG BK504.out 1).trans rfl, hx505_0⟩ (fun hHeld => ?_); refine with_tabW spec_l26With.tab2 spec_l26With.bits2 (fun HT_ HW_ => ?_)
   generalize w18.drew = w19 at HO503 BK499 BK500 BK504 HB GG7 HQ20 hf7_0 hx505_0 hx7_0 hHeld ⊢
   refine zp HT_ 0 14 #[true, false, false, false, false, false, false, false, false, false, false, false] ?_
   refine zp HT_ 2 16 #[true, false, true, false, false, false, false, false, false, false, false, false] ?_
   refine zp HT_ 3 17 #[true, false, true, true, false, false, false, false, false, false, false, false] ?_
   refine zp HT_ 5 19 #[true, false, true, true, false, true, false, false, false, false, false, false] ?_
   refine zp HT_ 8 22 #[true, false, true, true, false, true, false, false, true, false, false, false] ?_
   refine zt3 HT_ HW_ hHeld 1 15 #[true, true, true, true, false, true, false, false, true, false, false, false] ?_
   refine zt3 HT_ HW_ hHeld 4 18 #[true, true, true, true, true, true, false, false, true, false, false, false] ?_
   refine zp HT_ 6 20 #[true, true, true, true, true, true, true, false, true, false, false, false] ?_
   refine zt3 HT_ HW_ hHeld 7 21 #[true, true, true, true, true, true, true, true, true, false, false, false] ?_
   refine zp HT_ 9 23 #[true, true, true, true, true, true, true, true, true, true, false, false] ?_
   refine zp HT_ 10 24 #[true, true, true, true, true, true, true, true, true, true, true, false] ?_
   refine last_ (i := 11) (N := none) #[true, true, true, true, true, true, true, true, true, true, true, true] rfl rfl (one_of HT_.out zr) (by decide) (fun K hK => ?_)
   refine skip_ (w1 := ?_) (by rfl) rfl ?_ ?_
   rotate_left
   ·go_simp
    rfl
   refine hK.out _ _ ?_
   clear hK K
   refine done_ (done_of HT_.out zr) ?_
   have n0_ : Aside0 (Kd.R (Kd.int .i64) 2 (w19.setCell ⟨go7, (a1 : Int).toNat, none⟩ (.int .i64 (wrap64 ((rd t501 a1) + a2)))) w.heap.size (fun _ => True) (.slice (some ⟨go7, 0, none⟩) t501.length co15) y506) := ⟨by (with_reducible repeat (first | apply jT | apply jS | apply jR)); exact HQ20.out⟩
   have n1_ : Aside0 ((w19.setCell ⟨go7, (a1 : Int).toNat, none⟩ (.int .i64 (wrap64 ((rd t501 a1) + a2)))).heap[gb499]? = some (.cells #[.int .i64 a0_0, .slice A0_1 l0_1.length c0_1] 28 (0, 0))) := ⟨by (with_reducible repeat (first | refine blk_drewN ?_ _ | refine blk_drew ?_ | refine blk_alloc ?_ _)); refine blk_far ?_ (by have h_ := Kd.R_ne HO503.out BK499.out (by decide); intro e_; exact h_ (by rw [e_]; rfl)) _; (with_reducible repeat (first | refine blk_drewN ?_ _ | refine blk_drew ?_ | refine blk_alloc ?_ _)); exact BK499.out⟩
   have n2_ : Aside0 ((w19.setCell ⟨go7, (a1 : Int).toNat, none⟩ (.int .i64 (wrap64 ((rd t501 a1) + a2)))).heap[gb500]? = some (.cells #[.int .i64 0, .slice none 0 0] 28 (0, 0))) := ⟨by (with_reducible repeat (first | refine blk_drewN ?_ _ | refine blk_drew ?_ | refine blk_alloc ?_ _)); refine blk_far ?_ (by have h_ := Kd.R_ne HO503.out BK500.out (by decide); intro e_; exact h_ (by rw [e_]; rfl)) _; (with_reducible repeat (first | refine blk_drewN ?_ _ | refine blk_drew ?_ | refine blk_alloc ?_ _)); exact BK500.out⟩
   have n3_ : Aside0 ((w19.setCell ⟨go7, (a1 : Int).toNat, none⟩ (.int .i64 (wrap64 ((rd t501 a1) + a2)))).heap[gb504]? = some (.cells #[.int .i64 a0_0, .slice (some ⟨go7, 0, none⟩) t501.length co15] 28 (0, 0))) := ⟨by (with_reducible repeat (first | refine blk_drewN ?_ _ | refine blk_drew ?_ | refine blk_alloc ?_ _)); refine blk_far ?_ (by have h_ := Kd.R_ne HO503.out BK504.out (by decide); intro e_; exact h_ (by rw [e_]; rfl)) _; (with_reducible repeat (first | refine blk_drewN ?_ _ | refine blk_drew ?_ | refine blk_alloc ?_ _)); exact BK504.out⟩
   have n4_ : Aside0 (Below w.heap.size w (w19.setCell ⟨go7, (a1 : Int).toNat, none⟩ (.int .i64 (wrap64 ((rd t501 a1) + a2))))) := ⟨zr11 HB GB7 GE499 GE500 GE504⟩
   (try clear HO503)
   (try clear BK499)
   (try clear BK500)
   (try clear BK504)
   (try clear HB)
   generalize (w19.setCell ⟨go7, (a1 : Int).toNat, none⟩ (.int .i64 (wrap64 ((rd t501 a1) + a2)))) = w21 at n0_ n1_ n2_ n3_ n4_ ⊢
   have HO503 := n0_
   have BK499 := n1_
   have BK500 := n2_
   have BK504 := n3_
   have HB := n4_
   clear n0_ n1_ n2_ n3_ n4_
   have hnb22 := NB504_499.out
   have hnc22 := NB499_504.out
   have hnb23 := NB504_500.out
   have hnc23 := NB500_504.out
   have hcz24 := zc2 BK504
   have hnb25 := NB500_499.out
   have hnc25 := NB499_500.out
   have hcz26 := zc2 BK500
   try go_wp2
   refine jX (results_cell_row rfl _ _ gb500 28 #[.int .i64 a0_0, .slice (some ⟨go7, 0, none⟩) t501.length co15] (0, 0) _ rfl (zP0 BK500) Try.underlying28 rfl zr) rfl ?_
   exact ⟨_, ze, zT HO503 BK500, zb3 HB GE499 GE500 GE504⟩
  ·rw [if_neg c6] at H
   exact absurd H (by simp)
 ·rw [if_neg c5] at H
  exact absurd H (by simp)

end Go.Proofs.Ytdgglhfnlljmeaa.PFnMagazines
