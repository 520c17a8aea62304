/- Functions and contracts that FnProofs reaches (12 of 22). -/
import Derived.Test.YthieppjmjgijfaaQFnProofsx10
namespace Go.Proofs.Ythieppjmjgijfaa.PFnProofs
open Go.RowKit Go.Proofs.YthieppjmjgijfaaW.PrintWords Go.Proofs.YthieppjmjgijfaaW.PrintLast Go.Proofs.YthieppjmjgijfaaW.PrintMore
attribute [local go_sem] max2_int min2_int max_two min_two max_three min_three max_four min_four   -- for this text's walks alone
set_option linter.unusedVariables false
set_option linter.unusedSimpArgs false

/-! ### spec_l25Hand: function 84 -/
def spec_l25Hand.l0 : Nat → List Int → Int → List Int → Int → Int → Option (List Int × Int × Int)
 | 0, _, _, _, _, _ => none
 | k + 1, x3, x4, x1000, x1001, x1002 => if x4 < 10 then ((spec_l01Next.f x1000 x1001 x1002 3).bind fun bt378 => (if bt378.1 > 0 then (if x3.length < 17592186044416 then (spec_l25Hand.l0 k (x3 ++ [x4]) (wrap64 (x4 + 1)) x1000 bt378.2.1 bt378.2.2) else (none)) else (spec_l25Hand.l0 k x3 (wrap64 (x4 + 1)) x1000 bt378.2.1 bt378.2.2))) else ((spec_l01Next.f x1000 x1001 x1002 30).bind fun bt384 => (if bt384.1 = 0 then ((spec_l01Pick.f x1000 bt384.2.1 bt384.2.2 (([10, 3, (-1)] : List Int))).bind fun bt390 => (if x3.length < 17592186044416 then (some ((x3 ++ [bt390.1]), bt390.2.1, bt390.2.2)) else (none))) else (some (x3, bt384.2.1, bt384.2.2))))
def spec_l25Hand.f (k : Nat) (s0_0 : List Int) (s0_1 : Int) (s0_2 : Int) : Option (List Int × Int × Int) := spec_l25Hand.l0 k (([] : List Int)) 0 s0_0 s0_1 s0_2
theorem spec_l25Hand.mono_l : ∀ k, (∀ y0 y1 y2 y3 y4, LeO (spec_l25Hand.l0 k y0 y1 y2 y3 y4) (spec_l25Hand.l0 (k + 1) y0 y1 y2 y3 y4))
 | 0 => fun _ _ _ _ _ r h => by simp [spec_l25Hand.l0] at h
 | k + 1 => by
  have ih0 := spec_l25Hand.mono_l k
  ·intro y0 y1 y2 y3 y4
   unfold spec_l25Hand.l0
   repeat' first
   | (with_reducible exact ih0 _ _ _ _ _)
   | (with_reducible exact LeO.refl _)
   | (with_reducible exact LeO.none _)
   | (with_reducible refine LeO.ite ?_ ?_)
   | (with_reducible refine LeO.bind ?_ (fun _ => ?_))
   | exact ih0 _ _ _ _ _
   | exact LeO.none _
   | refine LeO.ite ?_ ?_
   | refine LeO.bind ?_ (fun _ => ?_)
theorem spec_l25Hand.mono : ∀ a0 a1 a2 k, LeO (spec_l25Hand.f k a0 a1 a2) (spec_l25Hand.f (k + 1) a0 a1 a2) := by
 intro a0 a1 a2 k
 have ih0 := spec_l25Hand.mono_l k
 unfold spec_l25Hand.f
 repeat' first
   | (with_reducible exact ih0 _ _ _ _ _)
   | (with_reducible exact LeO.refl _)
   | (with_reducible exact LeO.none _)
   | (with_reducible refine LeO.ite ?_ ?_)
   | (with_reducible refine LeO.bind ?_ (fun _ => ?_))
   | exact ih0 _ _ _ _ _
   | exact LeO.none _
   | refine LeO.ite ?_ ?_
   | refine LeO.bind ?_ (fun _ => ?_)
set_option maxHeartbeats 8000000 in
set_option maxRecDepth 100000 in
theorem spec_l25Hand.calls (k : Nat) (g : Nat) (s0_0 : List Int) (s0_1 : Int) (s0_2 : Int) (r1 : List Int) (r2 : Int) (r3 : Int) (w0 w : World) (hI : IsS95 w0 w g s0_0 s0_1 s0_2) (hB : Below w0.heap.size w0 w) (h : spec_l25Hand.f k s0_0 s0_1 s0_2 = some (r1, r2, r3)) :
  Calls Try.prog 84 #[.pointer (some ⟨g, 0, none⟩)] w fun e w' => ∃ v0_ : Value, e = .returned (v0_) ∧ Kd.R (Kd.int .i64) 2 w' w.heap.size (fun _ => True) v0_ r1 ∧ IsS95 w0 w' g s0_0 r2 r3 ∧ Below w0.heap.size w0 w' ∧ KeepBut w w' g none := by
 have HI0 := jA hI
 have HK := jA (KeepBut.refl w g none)
 have HL := jA hB.size
 clear hI
 have HW0 := jA hB.size
 have HB := jA hB
 clear hB
 have H : (spec_l25Hand.l0 k (([] : List Int)) 0 s0_0 s0_1 s0_2) = some (r1, r2, r3) := h
 clear h
 obtain ⟨y375, hy375⟩ : ∃ y_ : List Int, y_ = (([] : List Int)) := ⟨_, rfl⟩
 replace H : (spec_l25Hand.l0 k y375 0 s0_0 s0_1 s0_2) = some (r1, r2, r3) := by first | (rw [hy375]; with_reducible exact H) | (have H2_ := (Option.bind_some _ _).symm.trans H; rw [hy375]; with_reducible exact H2_) | (have H2_ := (Option.bind_some _ _).symm.trans H; with_reducible exact H2_) | with_reducible exact H | (rw [hy375]; exact H) | exact H
 have Ny375 := jA hy375
 clear hy375
 have H' := jA H
 clear H
 go_enter Try.func84, Try.ntmps84
 go_wp2_with (first | ((with_reducible refine jJ (N := 5) rfl ?_); refine Kd.R_lit (Kd.int .i64) _ 2 ?hg (N := 5) ?hd (xs := ([] : List Int)) (inner := []) (ok := fun _ => True) (okp := fun _ => True) ?hr ?hp (fun _ hk => hk) trivial (Below.refl _ _) (Nat.le_refl _) (by simp) ?_; (case hd => rfl); (case hg => rfl); (case hr => first | (go_simp; done) | (go_simp; rfl)); (case hp => exact (Reps.none _ _)); intro v376 w2 ho3 hb hg_ hnew_; clear hg_ hnew_; (first | rw [← Ny375.out] at ho3 | (simp only [Int.reduceToNat] at ho3; rw [← Ny375.out] at ho3)); have HO377 := jA (jX ho3 (keep_size (w := w) (g := g) (row := none) (zh0 HK))); replace HK := jA (KeepBut.trans (zh0 HK) (KeepBut.of_below hb g none) (.inl rfl)); replace HB := jA (jY (zr4 HB HI0) hb); replace HI0 := jA (IsS95.below (zr3 HI0) hb); clear hb ho3))
 go_loopg [3, 4] k (fun kq v3 v4 w' => ∃ (x3_1 : List Int) (x4_1 : Int) (x1001_1 : Int) (x1002_1 : Int), v4 = .int .i64 x4_1 ∧ Aside0 (spec_l25Hand.l0 kq x3_1 x4_1 s0_0 x1001_1 x1002_1 = some (r1, r2, r3)) ∧ Aside0 (kq ≤ k) ∧ Aside0 (Kd.R (Kd.int .i64) 2 w' w.heap.size (fun _ => True) v3 x3_1) ∧ Aside0 (IsS95 w0 w' g s0_0 x1001_1 x1002_1) ∧ Aside0 (KeepBut w w' g none) ∧ Aside0 (Below w0.heap.size w0 w'))
 case atStart => exact ⟨(y375), (0), (s0_1), (s0_2), zz, H', ⟨Nat.le_refl _⟩, ⟨zo HO377⟩, ⟨zr3 HI0⟩, ⟨zh0 HK⟩, ⟨zr4 HB HI0⟩⟩
 case round =>
  clear H'
  try clear p2
  obtain ⟨x3_1, x4_1, x1001_1, x1002_1, rfl, HA, HK1, HO_3, HI0, HK, HB⟩ := hrel
  cases gk with
  | zero => exact absurd HA.out (by simp [spec_l25Hand.l0])
  | succ k1 =>
   have H := HA.out
   clear HA
   simp only [spec_l25Hand.l0] at H
   by_cases c4 : x4_1 < 10
   ·rw [if_pos c4] at H
    have c4b0 : decide (x4_1 < 10) = true := jI c4
    clear c4
    replace H := jC.mp H
    obtain ⟨⟨t378, t379, t380⟩, A50, H⟩ := H
    replace H : (if t378 > 0 then (if x3_1.length < 17592186044416 then (spec_l25Hand.l0 k1 (x3_1 ++ [x4_1]) (wrap64 (x4_1 + 1)) s0_0 t379 t380) else (none)) else (spec_l25Hand.l0 k1 x3_1 (wrap64 (x4_1 + 1)) s0_0 t379 t380)) = some (r1, r2, r3) := H
    have A5 := jA A50
    clear A50
    by_cases c6 : t378 > 0
    ·rw [if_pos c6] at H
     have c6b0 : decide (0 < t378) = true := jI c6
     clear c6
     by_cases c7 : x3_1.length < 17592186044416
     ·rw [if_pos c7] at H
      have LMc7 := jA c7
      clear c7
      obtain ⟨y381, hy381⟩ : ∃ y_ : List Int, y_ = (x3_1 ++ [x4_1]) := ⟨_, rfl⟩
      replace H : (spec_l25Hand.l0 k1 y381 (wrap64 (x4_1 + 1)) s0_0 t379 t380) = some (r1, r2, r3) := by first | (rw [hy381]; with_reducible exact H) | (have H2_ := (Option.bind_some _ _).symm.trans H; rw [hy381]; with_reducible exact H2_) | (have H2_ := (Option.bind_some _ _).symm.trans H; with_reducible exact H2_) | with_reducible exact H | (rw [hy381]; exact H) | exact H
      have Ny381 := jA hy381
      clear hy381
      have H' := jA H
      clear H
      go_wp2_with (first | ((with_reducible refine jG (f := 62) rfl ?_); refine zL (some 11) Try.func62 #[.pointer (some ⟨g, 0, none⟩), .int .i64 3] ?_; (with_reducible refine (spec_l01Next.calls g s0_0 x1001_1 x1002_1 3 t378 t379 t380 w0 _ ?side1 ?side2 A5.out).mono ?_); (case side1 => exact zr3 HI0); (case side2 => exact zr4 HB HI0); rintro e w8 ⟨rfl, hi, hb, hk⟩; refine ⟨_, rfl, ?_⟩; replace HO_3 := jA (Kd.R_mono (Kd.R_keep (IsS95.apart (show IsS95 w0 _ g s0_0 x1001_1 x1002_1 from zr3 HI0) (zo HO_3) (by decide)) hk (fun _ h => h.2)) (fun _ h => h.1)); replace HK := jA (KeepBut.trans (zh0 HK) hk (.inl rfl)); replace HB := jA (hb); replace HI0 := jA (hi); (try clear hb); (try clear hb2); (try clear hk); (try clear hi)) | ((with_reducible refine gate_builtin (b := .append) (xs := #[.tmp 13, .tmp 15]) rfl ?_); at_builtin; refine Kd.R_append (Kd.int .i64) w.heap.size rfl (.tmp 13) (.tmp 15) 35 2 (.int .i64 0) 8 rfl Try.underlying35 info2 rfl (by decide) (by omega) u3 x3_1 x4_1 [.int .i64 x4_1] (fun _ => True) (fun _ => False) rfl rfl ?aP (fun _ hk => hk.elim) ?aF ?aO (Below.refl _ _) ?aS ?aL ?_; (case aP => exact rfl); (case aF => exact (fun _ _ => trivial)); (case aO => exact (zo HO_3)); (case aS => exact (keep_size (w := w) (g := g) (row := none) (zh0 HK))); (case aL => have := LMc7.out; omega); intro v382 w9 ho hb hg hat; rw [← Ny381.out] at ho; replace HB := jA (below_weaken (zr4 HB HI0) HL.out hb); replace HI0 := jA (IsS95.grown (zr3 HI0) hg (IsS95.own_ne HI0.out HO_3.out (by decide))); replace HK := jA (KeepBut.trans (zh0 HK) (KeepBut.of_grown hg g) (Kd.R_base2 HO_3.out)); have HO383 := jA (ho); clear HO_3; clear ho hb hg hat))
      go_roundg k1
      case measure => have := HK1.out; omega
      case rel => exact ⟨(y381), (wrap64 (x4_1 + 1)), (t379), (t380), zz, H', ⟨by have := HK1.out; omega⟩, ⟨zo HO383⟩, ⟨zr3 HI0⟩, ⟨zh0 HK⟩, ⟨zr4 HB HI0⟩⟩
     ·rw [if_neg c7] at H
      exact absurd H (by simp)
    ·rw [if_neg c6] at H
     have c6b0 : decide (0 < t378) = false := jS c6
     clear c6
     have H' := jA H
     clear H
     go_wp2_with (first | ((with_reducible refine jG (f := 62) rfl ?_); refine zL (some 11) Try.func62 #[.pointer (some ⟨g, 0, none⟩), .int .i64 3] ?_; (with_reducible refine (spec_l01Next.calls g s0_0 x1001_1 x1002_1 3 t378 t379 t380 w0 _ ?side1 ?side2 A5.out).mono ?_); (case side1 => exact zr3 HI0); (case side2 => exact zr4 HB HI0); rintro e w10 ⟨rfl, hi, hb, hk⟩; refine ⟨_, rfl, ?_⟩; replace HO_3 := jA (Kd.R_mono (Kd.R_keep (IsS95.apart (show IsS95 w0 _ g s0_0 x1001_1 x1002_1 from zr3 HI0) (zo HO_3) (by decide)) hk (fun _ h => h.2)) (fun _ h => h.1)); replace HK := jA (KeepBut.trans (zh0 HK) hk (.inl rfl)); replace HB := jA (hb); replace HI0 := jA (hi); (try clear hb); (try clear hb2); (try clear hk); (try clear hi)))
     go_roundg k1
     case measure => have := HK1.out; omega
     case rel => exact ⟨(x3_1), (wrap64 (x4_1 + 1)), (t379), (t380), zz, H', ⟨by have := HK1.out; omega⟩, ⟨zo HO_3⟩, ⟨zr3 HI0⟩, ⟨zh0 HK⟩, ⟨zr4 HB HI0⟩⟩
   ·rw [if_neg c4] at H
    have c4b0 : decide (x4_1 < 10) = false := jS c4
    clear c4
    replace H := jC.mp H
    obtain ⟨⟨t384, t385, t386⟩, A110, H⟩ := H
    try dsimp only at H
    have A11 := jA A110
    clear A110
    by_cases c12 : t384 = 0
    ·rw [if_pos c12] at H
     have c12b0 : (t384 == 0) = true := beq_iff_eq.mpr c12
     have c12b1 : (t384 != 0) = false := bne_eq_false_iff_eq.mpr c12
     clear c12
     obtain ⟨y387, hy387⟩ : ∃ y_ : List Int, y_ = (([10, 3, (-1)] : List Int)) := ⟨_, rfl⟩
     replace H : ((spec_l01Pick.f s0_0 t385 t386 y387).bind fun bt390 => (if x3_1.length < 17592186044416 then (some ((x3_1 ++ [bt390.1]), bt390.2.1, bt390.2.2)) else (none))) = some (r1, r2, r3) := by first | (rw [hy387]; with_reducible exact H) | (have H2_ := (Option.bind_some _ _).symm.trans H; rw [hy387]; with_reducible exact H2_) | (have H2_ := (Option.bind_some _ _).symm.trans H; with_reducible exact H2_) | with_reducible exact H | (rw [hy387]; exact H) | exact H
     have Ny387 := jA hy387
     clear hy387
     replace H := jC.mp H
     obtain ⟨⟨t390, t391, t392⟩, A130, H⟩ := H
     try dsimp only at H
     have A13 := jA A130
     clear A130
     by_cases c14 : x3_1.length < 17592186044416
     ·rw [if_pos c14] at H
      have LMc14 := jA c14
      clear c14
      obtain ⟨y393, hy393⟩ : ∃ y_ : List Int, y_ = (x3_1 ++ [t390]) := ⟨_, rfl⟩
      replace H : (some (y393, t391, t392)) = some (r1, r2, r3) := by first | (rw [hy393]; with_reducible exact H) | (have H2_ := (Option.bind_some _ _).symm.trans H; rw [hy393]; with_reducible exact H2_) | (have H2_ := (Option.bind_some _ _).symm.trans H; with_reducible exact H2_) | with_reducible exact H | (rw [hy393]; exact H) | exact H
      have Ny393 := jA hy393
      clear hy393
      simp only [jH, jK] at H
      obtain ⟨rfl, rfl, rfl⟩ := H
      go_wp2_with (first | ((with_reducible refine jG (f := 62) rfl ?_); refine zL (some 18) Try.func62 #[.pointer (some ⟨g, 0, none⟩), .int .i64 30] ?_; (with_reducible refine (spec_l01Next.calls g s0_0 x1001_1 x1002_1 30 t384 t385 t386 w0 _ ?side1 ?side2 A11.out).mono ?_); (case side1 => exact zr3 HI0); (case side2 => exact zr4 HB HI0); rintro e w15 ⟨rfl, hi, hb, hk⟩; refine ⟨_, rfl, ?_⟩; replace HO_3 := jA (Kd.R_mono (Kd.R_keep (IsS95.apart (show IsS95 w0 _ g s0_0 x1001_1 x1002_1 from zr3 HI0) (zo HO_3) (by decide)) hk (fun _ h => h.2)) (fun _ h => h.1)); replace HK := jA (KeepBut.trans (zh0 HK) hk (.inl rfl)); replace HB := jA (hb); replace HI0 := jA (hi); (try clear hb); (try clear hb2); (try clear hk); (try clear hi)) | ((with_reducible refine jJ (N := 22) rfl ?_); refine Kd.R_lit (Kd.int .i64) _ 2 ?hg (N := 22) ?hd (xs := ([10, 3, (-1)] : List Int)) (inner := [.int .i64 10, .int .i64 3, .int .i64 (-1)]) (ok := fun _ => True) (okp := fun _ => True) ?hr ?hp (fun _ hk => hk) trivial (Below.refl _ _) (Nat.le_refl _) (by simp) ?_; (case hd => rfl); (case hg => rfl); (case hr => first | (go_simp; done) | (go_simp; rfl)); (case hp => exact (Reps.one (show Kd.M (Kd.int .i64) _ _ _ 10 [.int .i64 10] from rfl) (Reps.one (show Kd.M (Kd.int .i64) _ _ _ 3 [.int .i64 3] from rfl) (Reps.one (show Kd.M (Kd.int .i64) _ _ _ (-1) [.int .i64 (-1)] from rfl) (Reps.none _ _))))); intro v388 w16 ho17 hb hg_ hnew_; clear hg_ hnew_; (first | rw [← Ny387.out] at ho17 | (simp only [Int.reduceToNat] at ho17; rw [← Ny387.out] at ho17)); have HO389 := jA (jX (Kd.R_new' ho17 (Kd.R_lt (zo HO_3))) (keep_size (w := w) (g := g) (row := none) (zh0 HK))); replace HO_3 := jA (Kd.R_elder' (zo HO_3) (Kd.R_base ho17) hb); replace HK := jA (KeepBut.trans (zh0 HK) (KeepBut.of_below hb g none) (.inl rfl)); replace HB := jA (jY (zr4 HB HI0) hb); replace HI0 := jA (IsS95.below (zr3 HI0) hb); clear hb ho17; obtain ⟨Ao18, co18, eo18⟩ := Kd.R_slice HO389.out; subst eo18) | ((with_reducible refine jG (f := 61) rfl ?_); refine zL (some 23) Try.func61 #[.pointer (some ⟨g, 0, none⟩), .slice Ao18 y387.length co18] ?_; (with_reducible refine (spec_l01Pick.calls g s0_0 t385 t386 _ _ y387 t390 t391 t392 w0 _ ?side1 ?side2 ?side3 ?side4 ?side5 A13.out).mono ?_); (case side1 => exact zr3 HI0); (case side2 => exact zr4 HB HI0); (case side3 => exact zv HO389); (case side4 => exact (jO HO389.out).2.1); (case side5 => exact far_slice (IsS95.own_ne HI0.out HO389.out (by decide))); rintro e w19 ⟨rfl, hi, hb, hk⟩; refine ⟨_, rfl, ?_⟩; replace HO_3 := jA (Kd.R_mono (Kd.R_keep (IsS95.apart (show IsS95 w0 _ g s0_0 t385 t386 from zr3 HI0) (zo HO_3) (by decide)) hk (fun _ h => h.2)) (fun _ h => h.1)); replace HO389 := jA (Kd.R_mono (Kd.R_keep (IsS95.apart (show IsS95 w0 _ g s0_0 t385 t386 from zr3 HI0) (zo HO389) (by decide)) hk (fun _ h => h.2)) (fun _ h => h.1)); replace HK := jA (KeepBut.trans (zh0 HK) hk (.inl rfl)); replace HB := jA (hb); replace HI0 := jA (hi); (try clear hb); (try clear hb2); (try clear hk); (try clear hi)) | ((with_reducible refine gate_builtin (b := .append) (xs := #[.tmp 20, .tmp 24]) rfl ?_); at_builtin; refine Kd.R_append (Kd.int .i64) w.heap.size rfl (.tmp 20) (.tmp 24) 35 2 (.int .i64 0) 8 rfl Try.underlying35 info2 rfl (by decide) (by omega) u3 x3_1 t390 [.int .i64 t390] (fun k_ => some k_ ≠ (.slice Ao18 y387.length co18 : Value).ownBlock) (fun _ => False) rfl rfl ?aP (fun _ hk => hk.elim) ?aF ?aO (Below.refl _ _) ?aS ?aL ?_; (case aP => exact rfl); (case aF => exact (fun k_ hk => Kd.fresh' (Kd.R_lt (zo HO389)) k_ hk)); (case aO => exact (by (with_reducible repeat (first | apply ja | apply jZ | apply Kd.R_drew)); exact Kd.R_mono HO_3.out (fun _ hk => hk.2))); (case aS => exact (keep_size (w := w) (g := g) (row := none) (zh0 HK))); (case aL => have := LMc14.out; omega); intro v394 w20 ho hb hg hat; rw [← Ny393.out] at ho; replace HO389 := jA (Kd.R_after (ok := (fun _ => True)) (zo HO389) hg hat); replace HB := jA (below_weaken (zr4 HB HI0) HL.out hb); replace HI0 := jA (IsS95.grown (zr3 HI0) hg (IsS95.own_ne HI0.out HO_3.out (by decide))); replace HK := jA (KeepBut.trans (zh0 HK) (KeepBut.of_grown hg g) (Kd.R_base2 HO_3.out)); have HO395 := jA (ho); clear HO_3; clear ho hb hg hat))
      go_ret
      exact ⟨_, ze, by (with_reducible repeat (first | apply ja | apply jZ | apply Kd.R_drew)); exact Kd.R_mono HO395.out (fun _ hk => trivial), zr3 HI0, zr4 HB HI0, zh0 HK⟩
     ·rw [if_neg c14] at H
      exact absurd H (by simp)
    ·rw [if_neg c12] at H
     have c12b0 : (t384 == 0) = false := beq_eq_false_iff_ne.mpr c12
     have c12b1 : (t384 != 0) = true := bne_iff_ne.mpr c12
     simp only [jH, jK] at H
     obtain ⟨rfl, rfl, rfl⟩ := H
     go_wp2_with (first | ((with_reducible refine jG (f := 62) rfl ?_); refine zL (some 18) Try.func62 #[.pointer (some ⟨g, 0, none⟩), .int .i64 30] ?_; (with_reducible refine (spec_l01Next.calls g s0_0 x1001_1 x1002_1 30 t384 t385 t386 w0 _ ?side1 ?side2 A11.out).mono ?_); (case side1 => exact zr3 HI0); (case side2 => exact zr4 HB HI0); rintro e w21 ⟨rfl, hi, hb, hk⟩; refine ⟨_, rfl, ?_⟩; replace HO_3 := jA (Kd.R_mono (Kd.R_keep (IsS95.apart (show IsS95 w0 _ g s0_0 x1001_1 x1002_1 from zr3 HI0) (zo HO_3) (by decide)) hk (fun _ h => h.2)) (fun _ h => h.1)); replace HK := jA (KeepBut.trans (zh0 HK) hk (.inl rfl)); replace HB := jA (hb); replace HI0 := jA (hi); (try clear hb); (try clear hb2); (try clear hk); (try clear hi)))
     go_ret
     exact ⟨_, ze, zo HO_3, zr3 HI0, zr4 HB HI0, zh0 HK⟩

/-! ### spec_DrawReachedFrom: function 68 -/
def spec_DrawReachedFrom.f (k : Nat) (l0 : List Int) : Option (Bool × Bool × Bool × Bool × Bool × Int × List Int) := (spec_l01From.f k l0).bind fun bt397 => ((spec_l21Draw.f k bt397.1 bt397.2.1 bt397.2.2).bind fun bt401 => ((spec_l25Hand.f k bt397.1 bt401.2.2.2.2.2.2.1 bt401.2.2.2.2.2.2.2).bind fun bt410 => (some (bt401.1, bt401.2.1, bt401.2.2.1, bt401.2.2.2.1, bt401.2.2.2.2.1, bt401.2.2.2.2.2.1, bt410.1))))
theorem spec_DrawReachedFrom.mono : ∀ a0 k, LeO (spec_DrawReachedFrom.f k a0) (spec_DrawReachedFrom.f (k + 1) a0) := by
 intro a0 k
 unfold spec_DrawReachedFrom.f
 repeat' first
   | (with_reducible exact spec_l01From.mono _ _)
   | (with_reducible exact spec_l21Draw.mono _ _ _ _)
   | (with_reducible exact spec_l25Hand.mono _ _ _ _)
   | (with_reducible exact LeO.refl _)
   | (with_reducible exact LeO.none _)
   | (with_reducible refine LeO.ite ?_ ?_)
   | (with_reducible refine LeO.bind ?_ (fun _ => ?_))
   | exact spec_l01From.mono _ _
   | exact spec_l21Draw.mono _ _ _ _
   | exact spec_l25Hand.mono _ _ _ _
   | exact LeO.none _
   | refine LeO.ite ?_ ?_
   | refine LeO.bind ?_ (fun _ => ?_)
set_option maxHeartbeats 8000000 in
set_option maxRecDepth 100000 in
theorem spec_DrawReachedFrom.calls (k : Nat) (A0 : Option Addr) (c0 : Nat) (l0 : List Int) (r1 : Bool) (r2 : Bool) (r3 : Bool) (r4 : Bool) (r5 : Bool) (r6 : Int) (r7 : List Int) (w : World) (hr0 : Kd.C (Kd.int .u8) w A0 l0.length l0) (hc0 : l0.length ≤ c0) (h : spec_DrawReachedFrom.f k l0 = some (r1, r2, r3, r4, r5, r6, r7)) :
  Calls Try.prog 68 #[.slice A0 l0.length c0] w fun e w' => ∃ v6_ : Value, e = .returned (.tuple #[.agg #[.bool r1, .bool r2, .bool r3, .bool r4, .bool r5, .int .i64 r6], v6_]) ∧ Kd.R (Kd.int .i64) 2 w' w.heap.size (fun _ => True) v6_ r7 ∧ Below w.heap.size w w' := by
 have hu23 := Try.underlying23
 have HR0 := jA hr0
 have HC0 := jA hc0
 clear hr0 hc0
 have HB := jA (Below.refl w.heap.size w)
 have H := h
 unfold spec_DrawReachedFrom.f at H
 clear h
 replace H := jC.mp H
 obtain ⟨⟨t397, t398, t399⟩, A20, H⟩ := H
 try dsimp only at H
 have A2 := jA A20
 clear A20
 replace H := jC.mp H
 obtain ⟨⟨t401, t402, t403, t404, t405, t406, t407, t408⟩, A30, H⟩ := H
 try dsimp only at H
 have A3 := jA A30
 clear A30
 replace H := jC.mp H
 obtain ⟨⟨t410, t413, t414⟩, A40, H⟩ := H
 try dsimp only at H
 have A4 := jA A40
 clear A40
 simp only [jH, jK] at H
 obtain ⟨rfl, rfl, rfl, rfl, rfl, rfl, rfl⟩ := H
 go_enter Try.func68, Try.ntmps68
 try go_wp2_with (first | ((with_reducible refine jJ (N := 2) rfl ?_); refine zE 2 #[.bool false, .bool false, .bool false, .bool false, .bool false, .int .i64 0] 23 ?_; intro gb396 hg w5 hbox hb; have BK396 := jA (hbox); have GW396 := zg0 hg HB; have GE396 := zg0 hg HB; replace HB := zS0 HB hb; clear hb hbox hg) | ((with_reducible refine jG (f := 60) rfl ?_); refine zL (some 7) Try.func60 #[.slice A0 l0.length c0] ?_; (with_reducible refine (spec_l01From.calls k _ _ l0 t397 t398 t399 w _ ?side1 ?side2 ?side3 A2.out).mono ?_); (case side1 => exact zr2 HB GE396); (case side2 => exact HR0.out); (case side3 => exact HC0.out); rintro e w6 ⟨g400, rfl, hi, hb, hb2⟩; refine ⟨_, rfl, ?_⟩; replace HB := jA (hb); have HI400 := jA (hi); have NB400_396 := jA (IsS95.ne_blk hi (jU (g := gb396) (o := .cells #[.bool false, .bool false, .bool false, .bool false, .bool false, .int .i64 0] 23 (0, 0)) (zk BK396) hb2) (by decide)); have NB396_400 := jA (Ne.symm (IsS95.ne_blk hi (jU (g := gb396) (o := .cells #[.bool false, .bool false, .bool false, .bool false, .bool false, .int .i64 0] 23 (0, 0)) (zk BK396) hb2) (by decide))); replace BK396 := zB BK396 hb2; (try clear hb); (try clear hb2); (try clear hk); (try clear hi)) | ((with_reducible refine jG (f := 64) rfl ?_); refine zL (some 9) Try.func64 #[.pointer (some ⟨g400, 0, none⟩)] ?_; (with_reducible refine (spec_l21Draw.calls k g400 t397 t398 t399 t401 t402 t403 t404 t405 t406 t407 t408 w _ ?side1 ?side2 A3.out).mono ?_); (case side1 => exact zr5 HI400 NB400_396); (case side2 => exact zr6 HB HI400 GE396); rintro e w7 ⟨rfl, hi, hb, hk⟩; refine ⟨_, rfl, ?_⟩; replace BK396 := zK hk BK396 NB396_400; replace HB := jA (hb); replace HI400 := jA (hi); (try clear hb); (try clear hb2); (try clear hk); (try clear hi)) | ((with_reducible refine jJ (N := 5) rfl ?_); refine zE 5 #[.bool false, .bool false, .bool false, .bool false, .bool false, .int .i64 0] 23 ?_; intro gb409 hg w8 hbox hb; have BK409 := jA (hbox); have GW409 := jA ((by rw [hg]; exact (jT (zr6 HB HI400 GE396)) : w.heap.size ≤ gb409)); replace HB := jA (jY (zr6 HB HI400 GE396) hb); have GE409 := GW409; have NB396_409 := zn hg BK396; replace BK396 := zB BK396 hb; have NB409_396 := jA NB396_409.out.symm; have NB400_409 := jA ((by rw [hg]; exact Nat.ne_of_lt (IsS95.lt (show IsS95 w _ g400 t397 t407 t408 from zr5 HI400 NB400_396)) : g400 ≠ gb409)); have NB409_400 := jA ((by rw [hg]; exact Nat.ne_of_gt (IsS95.lt (show IsS95 w _ g400 t397 t407 t408 from zr5 HI400 NB400_396)) : gb409 ≠ g400)); replace HI400 := jA (IsS95.below (zr5 HI400 NB400_396) hb); clear hb hbox hg; have hnb9 := NB409_396.out; have hnc9 := NB396_409.out; have hnb10 := NB409_400.out; have hnc10 := NB400_409.out; have hcz11 := zc6 BK409))
 have n0_ : Aside0 (((((((w8.setCell ⟨gb409, 0, none⟩ (.bool t401)).setCell ⟨gb409, 1, none⟩ (.bool t402)).setCell ⟨gb409, 2, none⟩ (.bool t403)).setCell ⟨gb409, 3, none⟩ (.bool t404)).setCell ⟨gb409, 4, none⟩ (.bool t405)).setCell ⟨gb409, 5, none⟩ (.int .i64 t406)).heap[gb396]? = some (.cells #[.bool false, .bool false, .bool false, .bool false, .bool false, .int .i64 0] 23 (0, 0))) := ⟨zQ1 BK396 NB396_409⟩
 have n1_ : Aside0 (((((((w8.setCell ⟨gb409, 0, none⟩ (.bool t401)).setCell ⟨gb409, 1, none⟩ (.bool t402)).setCell ⟨gb409, 2, none⟩ (.bool t403)).setCell ⟨gb409, 3, none⟩ (.bool t404)).setCell ⟨gb409, 4, none⟩ (.bool t405)).setCell ⟨gb409, 5, none⟩ (.int .i64 t406)).heap[gb409]? = some (.cells #[.bool t401, .bool t402, .bool t403, .bool t404, .bool t405, .int .i64 t406] 23 (0, 0))) := ⟨zP0 BK409⟩
 have n2_ : Aside0 (IsS95 w ((((((w8.setCell ⟨gb409, 0, none⟩ (.bool t401)).setCell ⟨gb409, 1, none⟩ (.bool t402)).setCell ⟨gb409, 2, none⟩ (.bool t403)).setCell ⟨gb409, 3, none⟩ (.bool t404)).setCell ⟨gb409, 4, none⟩ (.bool t405)).setCell ⟨gb409, 5, none⟩ (.int .i64 t406)) g400 t397 t407 t408) := ⟨zr7 HI400 NB400_396 NB400_409⟩
 have n3_ : Aside0 (Below w.heap.size w ((((((w8.setCell ⟨gb409, 0, none⟩ (.bool t401)).setCell ⟨gb409, 1, none⟩ (.bool t402)).setCell ⟨gb409, 2, none⟩ (.bool t403)).setCell ⟨gb409, 3, none⟩ (.bool t404)).setCell ⟨gb409, 4, none⟩ (.bool t405)).setCell ⟨gb409, 5, none⟩ (.int .i64 t406))) := ⟨zr8 HB HI400 GE396 GE409⟩
 (try clear BK396)
 (try clear BK409)
 (try clear HI400)
 (try clear HB)
 generalize ((((((w8.setCell ⟨gb409, 0, none⟩ (.bool t401)).setCell ⟨gb409, 1, none⟩ (.bool t402)).setCell ⟨gb409, 2, none⟩ (.bool t403)).setCell ⟨gb409, 3, none⟩ (.bool t404)).setCell ⟨gb409, 4, none⟩ (.bool t405)).setCell ⟨gb409, 5, none⟩ (.int .i64 t406)) = w12 at n0_ n1_ n2_ n3_ ⊢
 have BK396 := n0_
 have BK409 := n1_
 have HI400 := n2_
 have HB := n3_
 clear n0_ n1_ n2_ n3_
 replace BK396 := jA (blk_drew BK396.out)
 replace BK409 := jA (blk_drew BK409.out)
 replace HI400 := jA (IsS95.drew HI400.out)
 replace HB := jA (below_drew1 HB.out)
 refine start_ (n := 5) (S := fun w' => w'.cell? ⟨gb409, 0, none⟩ = some (.bool t401) ∧ w'.cell? ⟨gb409, 1, none⟩ = some (.bool t402) ∧ w'.cell? ⟨gb409, 2, none⟩ = some (.bool t403) ∧ w'.cell? ⟨gb409, 3, none⟩ = some (.bool t404) ∧ w'.cell? ⟨gb409, 4, none⟩ = some (.bool t405) ∧ w'.cell? ⟨gb409, 5, none⟩ = some (.int .i64 t406)) (ds := []) #[false, false, false, false, false] zr rfl rfl ⟨(jL BK409.out 0).trans rfl, (jL BK409.out 1).trans rfl, (jL BK409.out 2).trans rfl, (jL BK409.out 3).trans rfl, (jL BK409.out 4).trans rfl, (jL BK409.out 5).trans rfl⟩ (fun hHeld => ?_)
 generalize w12.drew = w13 at BK396 BK409 HI400 HB hHeld ⊢
 refine pure_ (i := 1) (N := some 11) (v := ?_) (a' := ?_) #[false, true, false, false, false] rfl rfl zr (fun _ _ _ h => h) (Or.inl ⟨by rfl, ?_⟩) ?_ ?_
 rotate_left
 ·intro w'
  go_simp
  with_reducible rfl
 rotate_left
 ·simp only [Act.put, jD, jE, jF, i64_w, i32_w]
  rfl
 refine take_ (i := 0) (N := some 10) (v := ?_) (a' := ?_) #[true, true, false, false, false] rfl rfl zr (fun _ _ _ h => h) (Or.inl ⟨by rfl, ?_⟩) hHeld ?_ ?_
 rotate_left
 ·rintro w' ⟨s0, s1, s2, s3, s4, s5⟩
  go_simp
  with_reducible rfl
 rotate_left
 ·simp only [Act.put, jD, jE, jF, i64_w, i32_w]
  rfl
 refine one_ (i := 2) (N := some 12) #[true, true, true, false, false] rfl rfl zr (by decide) (fun K hK => ?_)
 refine goes_ Try.func84 zr rfl #[.pointer (some ⟨g400, 0, none⟩)] (by rfl) rfl rfl zm ?_
 with_reducible refine (spec_l25Hand.calls k g400 t397 t407 t408 t410 t413 t414 w _ ?side1 ?side2 A4.out).mono ?_
 (case side1 => exact zr7 HI400 NB400_396 NB400_409)
 (case side2 => exact zr8 HB HI400 GE396 GE409)
 rintro e w14 ⟨v411, rfl, ho0, hi, hb, hk⟩
 refine ⟨_, rfl, ?_⟩
 replace BK396 := zK hk BK396 NB396_400
 replace BK409 := zK hk BK409 NB409_400
 have HO412 := jA (jX ho0 (jT (zr8 HB HI400 GE396 GE409)))
 replace HB := jA (hb)
 replace HI400 := jA (hi)
 (try clear hb)
 (try clear hb2)
 (try clear hk)
 (try clear hi)
 (try clear ho0)
 refine hK.out _ _ ⟨(jL BK409.out 0).trans rfl, (jL BK409.out 1).trans rfl, (jL BK409.out 2).trans rfl, (jL BK409.out 3).trans rfl, (jL BK409.out 4).trans rfl, (jL BK409.out 5).trans rfl⟩ (fun hHeld => ?_)
 clear hK K
 refine norm_ (a' := ?_) ?_ ?_
 rotate_left
 ·show Act.put _ (some 12) _ = _
  simp only [Act.put, jD, jE, jF, i64_w, i32_w]
  rfl
 refine one_ (i := 3) (N := none) #[true, true, true, true, false] rfl rfl zr (by decide) (fun K hK => ?_)
 have hs15 : w14.cell? ⟨gb396, 0, none⟩ = some (.bool false) := (jL BK396.out 0).trans rfl
 have hfs15 := jW BK396.out 0
 have hns15_1 := NB409_396.out
 have hms15_1 := NB396_409.out
 have hs16 : w14.cell? ⟨gb396, 1, none⟩ = some (.bool false) := (jL BK396.out 1).trans rfl
 have hfs16 := jW BK396.out 1
 have hns16_1 := NB409_396.out
 have hms16_1 := NB396_409.out
 have hs17 : w14.cell? ⟨gb396, 2, none⟩ = some (.bool false) := (jL BK396.out 2).trans rfl
 have hfs17 := jW BK396.out 2
 have hns17_1 := NB409_396.out
 have hms17_1 := NB396_409.out
 have hs18 : w14.cell? ⟨gb396, 3, none⟩ = some (.bool false) := (jL BK396.out 3).trans rfl
 have hfs18 := jW BK396.out 3
 have hns18_1 := NB409_396.out
 have hms18_1 := NB396_409.out
 have hs19 : w14.cell? ⟨gb396, 4, none⟩ = some (.bool false) := (jL BK396.out 4).trans rfl
 have hfs19 := jW BK396.out 4
 have hns19_1 := NB409_396.out
 have hms19_1 := NB396_409.out
 have hs20 : w14.cell? ⟨gb396, 5, none⟩ = some (.int .i64 0) := (jL BK396.out 5).trans rfl
 have hfs20 := jW BK396.out 5
 have hns20_1 := NB409_396.out
 have hms20_1 := NB396_409.out
 refine skip_ (w1 := ?_) (by rfl) rfl ?_ ?_
 rotate_left
 ·go_simp
  rfl
 refine hK.out _ _ ⟨((jM (p := ⟨gb396, _, none⟩) NB409_396.out _).trans (((jM (p := ⟨gb396, _, none⟩) NB409_396.out _).trans (((jM (p := ⟨gb396, _, none⟩) NB409_396.out _).trans (((jM (p := ⟨gb396, _, none⟩) NB409_396.out _).trans (((jM (p := ⟨gb396, _, none⟩) NB409_396.out _).trans (((jM (p := ⟨gb396, _, none⟩) NB409_396.out _).trans (hHeld.1)))))))))))), ((jM (p := ⟨gb396, _, none⟩) NB409_396.out _).trans (((jM (p := ⟨gb396, _, none⟩) NB409_396.out _).trans (((jM (p := ⟨gb396, _, none⟩) NB409_396.out _).trans (((jM (p := ⟨gb396, _, none⟩) NB409_396.out _).trans (((jM (p := ⟨gb396, _, none⟩) NB409_396.out _).trans (((jM (p := ⟨gb396, _, none⟩) NB409_396.out _).trans (hHeld.2.1)))))))))))), ((jM (p := ⟨gb396, _, none⟩) NB409_396.out _).trans (((jM (p := ⟨gb396, _, none⟩) NB409_396.out _).trans (((jM (p := ⟨gb396, _, none⟩) NB409_396.out _).trans (((jM (p := ⟨gb396, _, none⟩) NB409_396.out _).trans (((jM (p := ⟨gb396, _, none⟩) NB409_396.out _).trans (((jM (p := ⟨gb396, _, none⟩) NB409_396.out _).trans (hHeld.2.2.1)))))))))))), ((jM (p := ⟨gb396, _, none⟩) NB409_396.out _).trans (((jM (p := ⟨gb396, _, none⟩) NB409_396.out _).trans (((jM (p := ⟨gb396, _, none⟩) NB409_396.out _).trans (((jM (p := ⟨gb396, _, none⟩) NB409_396.out _).trans (((jM (p := ⟨gb396, _, none⟩) NB409_396.out _).trans (((jM (p := ⟨gb396, _, none⟩) NB409_396.out _).trans (hHeld.2.2.2.1)))))))))))), ((jM (p := ⟨gb396, _, none⟩) NB409_396.out _).trans (((jM (p := ⟨gb396, _, none⟩) NB409_396.out _).trans (((jM (p := ⟨gb396, _, none⟩) NB409_396.out _).trans (((jM (p := ⟨gb396, _, none⟩) NB409_396.out _).trans (((jM (p := ⟨gb396, _, none⟩) NB409_396.out _).trans (((jM (p := ⟨gb396, _, none⟩) NB409_396.out _).trans (hHeld.2.2.2.2.1)))))))))))), ((jM (p := ⟨gb396, _, none⟩) NB409_396.out _).trans (((jM (p := ⟨gb396, _, none⟩) NB409_396.out _).trans (((jM (p := ⟨gb396, _, none⟩) NB409_396.out _).trans (((jM (p := ⟨gb396, _, none⟩) NB409_396.out _).trans (((jM (p := ⟨gb396, _, none⟩) NB409_396.out _).trans (((jM (p := ⟨gb396, _, none⟩) NB409_396.out _).trans (hHeld.2.2.2.2.2))))))))))))⟩ (fun hHeld => ?_)
 clear hK K
 refine pure_ (i := 4) (N := some 3) (v := ?_) (a' := ?_) #[true, true, true, true, true] rfl rfl zr (fun _ _ _ h => h) (Or.inl ⟨by rfl, ?_⟩) ?_ ?_
 rotate_left
 ·intro w'
  go_simp
  with_reducible rfl
 rotate_left
 ·simp only [Act.put, jD, jE, jF, i64_w, i32_w]
  rfl
 refine done_ zr ?_
 try go_wp2
 refine jQ (results_ct rfl _ _ gb396 23 #[.bool t401, .bool t402, .bool t403, .bool t404, .bool t405, .int .i64 t406] (0, 0) _ rfl (zP0 BK396) Try.underlying23 rfl zr) rfl ?_
 exact ⟨_, ze, zT HO412 BK396, zr8 HB HI400 GE396 GE409⟩

/-! ### spec_l01Own: function 73 -/
def spec_l01Own.f (l0 : List Int) : Option (List Int) := (some (([] : List Int) : List Int)).bind fun y415 => (if y415.length + l0.length < 17592186044416 then (some (y415 ++ l0)) else (none))
set_option maxHeartbeats 8000000 in
set_option maxRecDepth 100000 in
theorem spec_l01Own.calls (A0 : Option Addr) (c0 : Nat) (l0 : List Int) (r : List Int) (w : World) (hr0 : Kd.C (Kd.int .i64) w A0 l0.length l0) (hc0 : l0.length ≤ c0) (h : spec_l01Own.f l0 = some r) :
  Calls Try.prog 73 #[.slice A0 l0.length c0] w fun e w' => ∃ v0_ : Value, e = .returned (v0_) ∧ Kd.R (Kd.int .i64) 2 w' w.heap.size (fun _ => True) v0_ r ∧ Below w.heap.size w w' := by
 have HR0 := jA hr0
 have HC0 := jA hc0
 clear hr0 hc0
 have HB := jA (Below.refl w.heap.size w)
 have H := h
 unfold spec_l01Own.f at H
 clear h
 obtain ⟨y415, hy415⟩ : ∃ y_ : List Int, y_ = (([] : List Int)) := ⟨_, rfl⟩
 replace H : (if y415.length + l0.length < 17592186044416 then (some (y415 ++ l0)) else (none)) = some r := by first | (rw [hy415]; with_reducible exact H) | (have H2_ := (Option.bind_some _ _).symm.trans H; rw [hy415]; with_reducible exact H2_) | (have H2_ := (Option.bind_some _ _).symm.trans H; with_reducible exact H2_) | with_reducible exact H | (rw [hy415]; exact H) | exact H
 have Ny415 := jA hy415
 clear hy415
 by_cases c2 : y415.length + l0.length < 17592186044416
 ·rw [if_pos c2] at H
  have LMc2 := jA c2
  clear c2
  obtain ⟨y418, hy418⟩ : ∃ y_ : List Int, y_ = (y415 ++ l0) := ⟨_, rfl⟩
  replace H : (some y418) = some r := by first | (rw [hy418]; with_reducible exact H) | (have H2_ := (Option.bind_some _ _).symm.trans H; rw [hy418]; with_reducible exact H2_) | (have H2_ := (Option.bind_some _ _).symm.trans H; with_reducible exact H2_) | with_reducible exact H | (rw [hy418]; exact H) | exact H
  have Ny418 := jA hy418
  clear hy418
  obtain rfl := jN H
  go_enter Try.func73, Try.ntmps73
  go_wp2_with (first | ((with_reducible refine jJ (N := 3) rfl ?_); refine Kd.R_lit (Kd.int .i64) _ 2 ?hg (N := 3) ?hd (xs := ([] : List Int)) (inner := []) (ok := fun _ => True) (okp := fun _ => True) ?hr ?hp (fun _ hk => hk) trivial (Below.refl _ _) (Nat.le_refl _) (by simp) ?_; (case hd => rfl); (case hg => rfl); (case hr => first | (go_simp; done) | (go_simp; rfl)); (case hp => exact (Reps.none _ _)); intro v416 w3 ho4 hb hg_ hnew_; clear hg_ hnew_; (first | rw [← Ny415.out] at ho4 | (simp only [Int.reduceToNat] at ho4; rw [← Ny415.out] at ho4)); have HO417 := jA (jX ho4 (jT (zb0 HB))); replace HB := zS0 HB hb; clear hb ho4) | ((with_reducible refine gate_builtin (b := .append) (xs := #[.tmp 3, .tmp 4]) rfl ?_); at_builtin; refine Kd.R_append_rows (Kd.int .i64) (w0 := w) w.heap.size rfl (.tmp 3) (.tmp 4) 35 2 (.int .i64 0) 8 rfl Try.underlying35 info2 rfl (by decide) (by omega) v416 y415 l0 _ _ _ (fun _ => True) (fun _ => False) rfl rfl ?aO ?aR (fun _ _ h => h) (fun _ h => h.elim) ?aF ?aB ?aS ?aL ?_; (case aR => repeat (first | exact HR0.out | exact (Kd.C_below HR0.out HB.out) | (with_reducible refine Kd.C_alloc ?_ _) | (with_reducible refine Kd.C_drewN ?_ _) | (with_reducible refine Kd.C_drew ?_))); (case aB => exact (zb0 HB)); (case aF => exact (fun _ _ => trivial)); (case aO => exact (zo HO417)); (case aS => exact (jT (zb0 HB))); (case aL => have := LMc2.out; omega); intro v419 w5 ho hb hg hat; rw [← Ny418.out] at ho; replace HB := jA (hb); have HO420 := jA (ho); clear HO417; clear ho hb hg hat))
  go_ret
  exact ⟨_, ze, zo HO420, zb0 HB⟩
 ·rw [if_neg c2] at H
  exact absurd H (by simp)

end Go.Proofs.Ythieppjmjgijfaa.PFnProofs
