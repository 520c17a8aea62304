/- Functions and contracts that FnMoved reaches (23 of 29). -/
import Derived.Test.YtdgglhfnlljmeaaQFnMovedx21
namespace Go.Proofs.Ytdgglhfnlljmeaa.PFnMoved
open Go.RowKit Go.Proofs.YtdgglhfnlljmeaaW.PrintWords Go.Proofs.YtdgglhfnlljmeaaW.PrintLast Go.Proofs.YtdgglhfnlljmeaaW.PrintMore
attribute [local go_sem] max2_int min2_int max_two min_two max_three min_three max_four min_four   -- for this text's walks alone
set_option linter.unusedVariables false
set_option linter.unusedSimpArgs false

/-! ### spec_l01Good: function 96 -/
def spec_l01Good.f (s0_0 : List Int) (s0_1 : Int) (s0_2 : Int) : Option (ByteArray × Int × Int) := (some (([(⟨#[97, 100, 97]⟩ : ByteArray), (⟨#[98, 114, 117, 110, 111]⟩ : ByteArray), (⟨#[99, 108, 97, 114, 97]⟩ : ByteArray), (⟨#[100, 111, 114, 97]⟩ : ByteArray), (⟨#[101, 109, 105, 108]⟩ : ByteArray), (⟨#[102, 114, 105, 100, 97]⟩ : ByteArray), (⟨#[103, 117, 115, 116, 97, 118]⟩ : ByteArray), (⟨#[104, 97, 110, 110, 97]⟩ : ByteArray), (⟨#[105, 118, 97, 110]⟩ : ByteArray), (⟨#[106, 97, 110, 97]⟩ : ByteArray), (⟨#[107, 97, 114, 108]⟩ : ByteArray), (⟨#[108, 101, 110, 97]⟩ : ByteArray)] : List ByteArray) : List ByteArray)).bind fun y386 => ((spec_l01Next.f s0_0 s0_1 s0_2 12).bind fun bt389 => (if 0 ≤ bt389.1 then (if bt389.1 < (y386.length : Int) then (some (rdOf ByteArray.empty y386 bt389.1, bt389.2.1, bt389.2.2)) else (none)) else (none)))
set_option maxHeartbeats 8000000 in
set_option maxRecDepth 100000 in
theorem spec_l01Good.calls (g : Nat) (s0_0 : List Int) (s0_1 : Int) (s0_2 : Int) (r1 : ByteArray) (r2 : Int) (r3 : Int) (w0 w : World) (hI : IsS92 w0 w g s0_0 s0_1 s0_2) (hB : Below w0.heap.size w0 w) (h : spec_l01Good.f s0_0 s0_1 s0_2 = some (r1, r2, r3)) :
  Calls Try.prog 96 #[.pointer (some ⟨g, 0, none⟩)] w fun e w' => e = .returned (.string r1) ∧ IsS92 w0 w' g s0_0 r2 r3 ∧ Below w0.heap.size w0 w' ∧ KeepBut w w' g none := by
 have HI0 := jA hI
 have HK := jA (KeepBut.refl w g none)
 have HL := jA hB.size
 clear hI
 have HW0 := jA hB.size
 have HB := jA hB
 clear hB
 have H := h
 unfold spec_l01Good.f at H
 clear h
 obtain ⟨y386, hy386⟩ : ∃ y_ : List ByteArray, y_ = (([(⟨#[97, 100, 97]⟩ : ByteArray), (⟨#[98, 114, 117, 110, 111]⟩ : ByteArray), (⟨#[99, 108, 97, 114, 97]⟩ : ByteArray), (⟨#[100, 111, 114, 97]⟩ : ByteArray), (⟨#[101, 109, 105, 108]⟩ : ByteArray), (⟨#[102, 114, 105, 100, 97]⟩ : ByteArray), (⟨#[103, 117, 115, 116, 97, 118]⟩ : ByteArray), (⟨#[104, 97, 110, 110, 97]⟩ : ByteArray), (⟨#[105, 118, 97, 110]⟩ : ByteArray), (⟨#[106, 97, 110, 97]⟩ : ByteArray), (⟨#[107, 97, 114, 108]⟩ : ByteArray), (⟨#[108, 101, 110, 97]⟩ : ByteArray)] : List ByteArray)) := ⟨_, rfl⟩
 replace H : ((spec_l01Next.f s0_0 s0_1 s0_2 12).bind fun bt389 => (if 0 ≤ bt389.1 then (if bt389.1 < (y386.length : Int) then (some (rdOf ByteArray.empty y386 bt389.1, bt389.2.1, bt389.2.2)) else (none)) else (none))) = some (r1, r2, r3) := by first | (rw [hy386]; with_reducible exact H) | (have H2_ := (Option.bind_some _ _).symm.trans H; rw [hy386]; with_reducible exact H2_) | (have H2_ := (Option.bind_some _ _).symm.trans H; with_reducible exact H2_) | with_reducible exact H | (rw [hy386]; exact H) | exact H
 have Ny386 := jA hy386
 clear hy386
 replace H := jB.mp H
 obtain ⟨⟨t389, t390, t391⟩, A20, H⟩ := H
 try dsimp only at H
 have A2 := jA A20
 clear A20
 by_cases c3 : 0 ≤ t389
 ·rw [if_pos c3] at H
  have c3b0 : decide (0 ≤ t389) = true := jK c3
  clear c3
  by_cases c4 : t389 < (y386.length : Int)
  ·rw [if_pos c4] at H
   have c4b0 : decide (t389 < (y386.length : Int)) = true := jK c4
   clear c4
   simp only [jM, jS] at H
   obtain ⟨rfl, rfl, rfl⟩ := H
   go_enter Try.func96, Try.ntmps96
   go_wp2_with (first | ((with_reducible refine jJ (N := 3) rfl ?_); refine Kd.R_lit Kd.string _ 9 ?hg (N := 3) ?hd (xs := ([(⟨#[97, 100, 97]⟩ : ByteArray), (⟨#[98, 114, 117, 110, 111]⟩ : ByteArray), (⟨#[99, 108, 97, 114, 97]⟩ : ByteArray), (⟨#[100, 111, 114, 97]⟩ : ByteArray), (⟨#[101, 109, 105, 108]⟩ : ByteArray), (⟨#[102, 114, 105, 100, 97]⟩ : ByteArray), (⟨#[103, 117, 115, 116, 97, 118]⟩ : ByteArray), (⟨#[104, 97, 110, 110, 97]⟩ : ByteArray), (⟨#[105, 118, 97, 110]⟩ : ByteArray), (⟨#[106, 97, 110, 97]⟩ : ByteArray), (⟨#[107, 97, 114, 108]⟩ : ByteArray), (⟨#[108, 101, 110, 97]⟩ : ByteArray)] : List ByteArray)) (inner := [.string (⟨#[97, 100, 97]⟩ : ByteArray), .string (⟨#[98, 114, 117, 110, 111]⟩ : ByteArray), .string (⟨#[99, 108, 97, 114, 97]⟩ : ByteArray), .string (⟨#[100, 111, 114, 97]⟩ : ByteArray), .string (⟨#[101, 109, 105, 108]⟩ : ByteArray), .string (⟨#[102, 114, 105, 100, 97]⟩ : ByteArray), .string (⟨#[103, 117, 115, 116, 97, 118]⟩ : ByteArray), .string (⟨#[104, 97, 110, 110, 97]⟩ : ByteArray), .string (⟨#[105, 118, 97, 110]⟩ : ByteArray), .string (⟨#[106, 97, 110, 97]⟩ : ByteArray), .string (⟨#[107, 97, 114, 108]⟩ : ByteArray), .string (⟨#[108, 101, 110, 97]⟩ : ByteArray)]) (ok := fun _ => True) (okp := fun _ => True) ?hr ?hp (fun _ hk => hk) trivial (Below.refl _ _) (Nat.le_refl _) (by simp) ?_; (case hd => rfl); (case hg => rfl); (case hr => first | (go_simp; done) | (go_simp; rfl)); (case hp => exact (Reps.one (show Kd.M Kd.string _ _ _ (⟨#[97, 100, 97]⟩ : ByteArray) [.string (⟨#[97, 100, 97]⟩ : ByteArray)] from rfl) (Reps.one (show Kd.M Kd.string _ _ _ (⟨#[98, 114, 117, 110, 111]⟩ : ByteArray) [.string (⟨#[98, 114, 117, 110, 111]⟩ : ByteArray)] from rfl) (Reps.one (show Kd.M Kd.string _ _ _ (⟨#[99, 108, 97, 114, 97]⟩ : ByteArray) [.string (⟨#[99, 108, 97, 114, 97]⟩ : ByteArray)] from rfl) (Reps.one (show Kd.M Kd.string _ _ _ (⟨#[100, 111, 114, 97]⟩ : ByteArray) [.string (⟨#[100, 111, 114, 97]⟩ : ByteArray)] from rfl) (Reps.one (show Kd.M Kd.string _ _ _ (⟨#[101, 109, 105, 108]⟩ : ByteArray) [.string (⟨#[101, 109, 105, 108]⟩ : ByteArray)] from rfl) (Reps.one (show Kd.M Kd.string _ _ _ (⟨#[102, 114, 105, 100, 97]⟩ : ByteArray) [.string (⟨#[102, 114, 105, 100, 97]⟩ : ByteArray)] from rfl) (Reps.one (show Kd.M Kd.string _ _ _ (⟨#[103, 117, 115, 116, 97, 118]⟩ : ByteArray) [.string (⟨#[103, 117, 115, 116, 97, 118]⟩ : ByteArray)] from rfl) (Reps.one (show Kd.M Kd.string _ _ _ (⟨#[104, 97, 110, 110, 97]⟩ : ByteArray) [.string (⟨#[104, 97, 110, 110, 97]⟩ : ByteArray)] from rfl) (Reps.one (show Kd.M Kd.string _ _ _ (⟨#[105, 118, 97, 110]⟩ : ByteArray) [.string (⟨#[105, 118, 97, 110]⟩ : ByteArray)] from rfl) (Reps.one (show Kd.M Kd.string _ _ _ (⟨#[106, 97, 110, 97]⟩ : ByteArray) [.string (⟨#[106, 97, 110, 97]⟩ : ByteArray)] from rfl) (Reps.one (show Kd.M Kd.string _ _ _ (⟨#[107, 97, 114, 108]⟩ : ByteArray) [.string (⟨#[107, 97, 114, 108]⟩ : ByteArray)] from rfl) (Reps.one (show Kd.M Kd.string _ _ _ (⟨#[108, 101, 110, 97]⟩ : ByteArray) [.string (⟨#[108, 101, 110, 97]⟩ : ByteArray)] from rfl) (Reps.none _ _)))))))))))))); intro v387 w5 ho6 hb hg_ hnew_; clear hg_ hnew_; (first | rw [← Ny386.out] at ho6 | (simp only [Int.reduceToNat] at ho6; rw [← Ny386.out] at ho6)); have HO388 := jA (jU ho6 (keep_size (w := w) (g := g) (row := none) (zh0 HK))); replace HK := jA (KeepBut.trans (zh0 HK) (KeepBut.of_below hb g none) (.inl rfl)); replace HB := jA (jY (zr4 HB HI0) hb); replace HI0 := jA (IsS92.below (zr3 HI0) hb); clear hb ho6) | ((with_reducible refine jG (f := 79) rfl ?_); refine zL (some 5) Try.func79 #[.pointer (some ⟨g, 0, none⟩), .int .i64 12] ?_; (with_reducible refine (spec_l01Next.calls g s0_0 s0_1 s0_2 12 t389 t390 t391 w0 _ ?side1 ?side2 A2.out).mono ?_); (case side1 => exact zr3 HI0); (case side2 => exact zr4 HB HI0); rintro e w7 ⟨rfl, hi, hb, hk⟩; refine ⟨_, rfl, ?_⟩; replace HO388 := jA (Kd.R_mono (Kd.R_keep (IsS92.apart (show IsS92 w0 _ g s0_0 s0_1 s0_2 from zr3 HI0) (zo HO388) (by decide)) hk (fun _ h => h.2)) (fun _ h => h.1)); replace HK := jA (KeepBut.trans (zh0 HK) hk (.inl rfl)); replace HB := jA (hb); replace HI0 := jA (hi); (try clear hb); (try clear hb2); (try clear hk); (try clear hi); obtain ⟨Ao8, co8, eo8⟩ := Kd.R_slice HO388.out; subst eo8; have p392 : 0 ≤ (t389 : Int) := jD za; have q392 : t389 < (y386.length : Int) := jD za; obtain ⟨ad392, e392, hx392_0⟩ := Kd.at_string (jO HO388.out).2.2 t389 p392 q392; cases e392; replace p392 := eq_true p392; replace q392 := eq_true q392))
   go_ret
   exact ⟨ze, zr3 HI0, zr4 HB HI0, zh0 HK⟩
  ·rw [if_neg c4] at H
   exact absurd H (by simp)
 ·rw [if_neg c3] at H
  exact absurd H (by simp)

/-! ### spec_l01DrawWord: function 95 -/
def spec_l01DrawWord.f (s0_0 : List Int) (s0_1 : Int) (s0_2 : Int) : Option (ByteArray × Int × Int) := (spec_l01Next.f s0_0 s0_1 s0_2 24).bind fun bt393 => (if bt393.1 = 0 then ((some (([(⟨#[]⟩ : ByteArray), (⟨#[65, 100, 97]⟩ : ByteArray), (⟨#[97, 49]⟩ : ByteArray), (⟨#[97, 98, 99, 100, 101, 102, 103, 104, 105, 106, 107, 108, 109, 110, 111, 112]⟩ : ByteArray), (⟨#[97, 98, 99, 100, 101, 102, 103, 104, 105, 106, 107, 108, 109, 110, 111, 112, 113]⟩ : ByteArray), (⟨#[97, 32, 98]⟩ : ByteArray)] : List ByteArray) : List ByteArray)).bind fun y396 => ((spec_l01Next.f s0_0 bt393.2.1 bt393.2.2 6).bind fun bt399 => (if 0 ≤ bt399.1 then (if bt399.1 < (y396.length : Int) then (some (rdOf ByteArray.empty y396 bt399.1, bt399.2.1, bt399.2.2)) else (none)) else (none)))) else ((spec_l01Good.f s0_0 bt393.2.1 bt393.2.2).bind fun bt403 => (some (bt403.1, bt403.2.1, bt403.2.2))))
set_option maxHeartbeats 8000000 in
set_option maxRecDepth 100000 in
theorem spec_l01DrawWord.calls (g : Nat) (s0_0 : List Int) (s0_1 : Int) (s0_2 : Int) (r1 : ByteArray) (r2 : Int) (r3 : Int) (w0 w : World) (hI : IsS92 w0 w g s0_0 s0_1 s0_2) (hB : Below w0.heap.size w0 w) (h : spec_l01DrawWord.f s0_0 s0_1 s0_2 = some (r1, r2, r3)) :
  Calls Try.prog 95 #[.pointer (some ⟨g, 0, none⟩)] w fun e w' => e = .returned (.string r1) ∧ IsS92 w0 w' g s0_0 r2 r3 ∧ Below w0.heap.size w0 w' ∧ KeepBut w w' g none := by
 have HI0 := jA hI
 have HK := jA (KeepBut.refl w g none)
 have HL := jA hB.size
 clear hI
 have HW0 := jA hB.size
 have HB := jA hB
 clear hB
 have H := h
 unfold spec_l01DrawWord.f at H
 clear h
 replace H := jB.mp H
 obtain ⟨⟨t393, t394, t395⟩, A20, H⟩ := H
 try dsimp only at H
 have A2 := jA A20
 clear A20
 by_cases c3 : t393 = 0
 ·rw [if_pos c3] at H
  have c3b0 : (t393 == 0) = true := beq_iff_eq.mpr c3
  have c3b1 : (t393 != 0) = false := bne_eq_false_iff_eq.mpr c3
  clear c3
  obtain ⟨y396, hy396⟩ : ∃ y_ : List ByteArray, y_ = (([(⟨#[]⟩ : ByteArray), (⟨#[65, 100, 97]⟩ : ByteArray), (⟨#[97, 49]⟩ : ByteArray), (⟨#[97, 98, 99, 100, 101, 102, 103, 104, 105, 106, 107, 108, 109, 110, 111, 112]⟩ : ByteArray), (⟨#[97, 98, 99, 100, 101, 102, 103, 104, 105, 106, 107, 108, 109, 110, 111, 112, 113]⟩ : ByteArray), (⟨#[97, 32, 98]⟩ : ByteArray)] : List ByteArray)) := ⟨_, rfl⟩
  replace H : ((spec_l01Next.f s0_0 t394 t395 6).bind fun bt399 => (if 0 ≤ bt399.1 then (if bt399.1 < (y396.length : Int) then (some (rdOf ByteArray.empty y396 bt399.1, bt399.2.1, bt399.2.2)) else (none)) else (none))) = some (r1, r2, r3) := by first | (rw [hy396]; with_reducible exact H) | (have H2_ := (Option.bind_some _ _).symm.trans H; rw [hy396]; with_reducible exact H2_) | (have H2_ := (Option.bind_some _ _).symm.trans H; with_reducible exact H2_) | with_reducible exact H | (rw [hy396]; exact H) | exact H
  have Ny396 := jA hy396
  clear hy396
  replace H := jB.mp H
  obtain ⟨⟨t399, t400, t401⟩, A40, H⟩ := H
  try dsimp only at H
  have A4 := jA A40
  clear A40
  by_cases c5 : 0 ≤ t399
  ·rw [if_pos c5] at H
   have c5b0 : decide (0 ≤ t399) = true := jK c5
   clear c5
   by_cases c6 : t399 < (y396.length : Int)
   ·rw [if_pos c6] at H
    have c6b0 : decide (t399 < (y396.length : Int)) = true := jK c6
    clear c6
    simp only [jM, jS] at H
    obtain ⟨rfl, rfl, rfl⟩ := H
    go_enter Try.func95, Try.ntmps95
    go_wp2_with (first | ((with_reducible refine jG (f := 79) rfl ?_); refine zL (some 4) Try.func79 #[.pointer (some ⟨g, 0, none⟩), .int .i64 24] ?_; (with_reducible refine (spec_l01Next.calls g s0_0 s0_1 s0_2 24 t393 t394 t395 w0 _ ?side1 ?side2 A2.out).mono ?_); (case side1 => exact zr3 HI0); (case side2 => exact zr4 HB HI0); rintro e w7 ⟨rfl, hi, hb, hk⟩; refine ⟨_, rfl, ?_⟩; replace HK := jA (KeepBut.trans (zh0 HK) hk (.inl rfl)); replace HB := jA (hb); replace HI0 := jA (hi); (try clear hb); (try clear hb2); (try clear hk); (try clear hi)) | ((with_reducible refine jJ (N := 6) rfl ?_); refine Kd.R_lit Kd.string _ 9 ?hg (N := 6) ?hd (xs := ([(⟨#[]⟩ : ByteArray), (⟨#[65, 100, 97]⟩ : ByteArray), (⟨#[97, 49]⟩ : ByteArray), (⟨#[97, 98, 99, 100, 101, 102, 103, 104, 105, 106, 107, 108, 109, 110, 111, 112]⟩ : ByteArray), (⟨#[97, 98, 99, 100, 101, 102, 103, 104, 105, 106, 107, 108, 109, 110, 111, 112, 113]⟩ : ByteArray), (⟨#[97, 32, 98]⟩ : ByteArray)] : List ByteArray)) (inner := [.string (⟨#[]⟩ : ByteArray), .string (⟨#[65, 100, 97]⟩ : ByteArray), .string (⟨#[97, 49]⟩ : ByteArray), .string (⟨#[97, 98, 99, 100, 101, 102, 103, 104, 105, 106, 107, 108, 109, 110, 111, 112]⟩ : ByteArray), .string (⟨#[97, 98, 99, 100, 101, 102, 103, 104, 105, 106, 107, 108, 109, 110, 111, 112, 113]⟩ : ByteArray), .string (⟨#[97, 32, 98]⟩ : ByteArray)]) (ok := fun _ => True) (okp := fun _ => True) ?hr ?hp (fun _ hk => hk) trivial (Below.refl _ _) (Nat.le_refl _) (by simp) ?_; (case hd => rfl); (case hg => rfl); (case hr => first | (go_simp; done) | (go_simp; rfl)); (case hp => exact (Reps.one (show Kd.M Kd.string _ _ _ (⟨#[]⟩ : ByteArray) [.string (⟨#[]⟩ : ByteArray)] from rfl) (Reps.one (show Kd.M Kd.string _ _ _ (⟨#[65, 100, 97]⟩ : ByteArray) [.string (⟨#[65, 100, 97]⟩ : ByteArray)] from rfl) (Reps.one (show Kd.M Kd.string _ _ _ (⟨#[97, 49]⟩ : ByteArray) [.string (⟨#[97, 49]⟩ : ByteArray)] from rfl) (Reps.one (show Kd.M Kd.string _ _ _ (⟨#[97, 98, 99, 100, 101, 102, 103, 104, 105, 106, 107, 108, 109, 110, 111, 112]⟩ : ByteArray) [.string (⟨#[97, 98, 99, 100, 101, 102, 103, 104, 105, 106, 107, 108, 109, 110, 111, 112]⟩ : ByteArray)] from rfl) (Reps.one (show Kd.M Kd.string _ _ _ (⟨#[97, 98, 99, 100, 101, 102, 103, 104, 105, 106, 107, 108, 109, 110, 111, 112, 113]⟩ : ByteArray) [.string (⟨#[97, 98, 99, 100, 101, 102, 103, 104, 105, 106, 107, 108, 109, 110, 111, 112, 113]⟩ : ByteArray)] from rfl) (Reps.one (show Kd.M Kd.string _ _ _ (⟨#[97, 32, 98]⟩ : ByteArray) [.string (⟨#[97, 32, 98]⟩ : ByteArray)] from rfl) (Reps.none _ _)))))))); intro v397 w8 ho9 hb hg_ hnew_; clear hg_ hnew_; (first | rw [← Ny396.out] at ho9 | (simp only [Int.reduceToNat] at ho9; rw [← Ny396.out] at ho9)); have HO398 := jA (jU ho9 (keep_size (w := w) (g := g) (row := none) (zh0 HK))); replace HK := jA (KeepBut.trans (zh0 HK) (KeepBut.of_below hb g none) (.inl rfl)); replace HB := jA (jY (zr4 HB HI0) hb); replace HI0 := jA (IsS92.below (zr3 HI0) hb); clear hb ho9) | ((with_reducible refine jG (f := 79) rfl ?_); refine zL (some 8) Try.func79 #[.pointer (some ⟨g, 0, none⟩), .int .i64 6] ?_; (with_reducible refine (spec_l01Next.calls g s0_0 t394 t395 6 t399 t400 t401 w0 _ ?side1 ?side2 A4.out).mono ?_); (case side1 => exact zr3 HI0); (case side2 => exact zr4 HB HI0); rintro e w10 ⟨rfl, hi, hb, hk⟩; refine ⟨_, rfl, ?_⟩; replace HO398 := jA (Kd.R_mono (Kd.R_keep (IsS92.apart (show IsS92 w0 _ g s0_0 t394 t395 from zr3 HI0) (zo HO398) (by decide)) hk (fun _ h => h.2)) (fun _ h => h.1)); replace HK := jA (KeepBut.trans (zh0 HK) hk (.inl rfl)); replace HB := jA (hb); replace HI0 := jA (hi); (try clear hb); (try clear hb2); (try clear hk); (try clear hi); obtain ⟨Ao11, co11, eo11⟩ := Kd.R_slice HO398.out; subst eo11; have p402 : 0 ≤ (t399 : Int) := jD za; have q402 : t399 < (y396.length : Int) := jD za; obtain ⟨ad402, e402, hx402_0⟩ := Kd.at_string (jO HO398.out).2.2 t399 p402 q402; cases e402; replace p402 := eq_true p402; replace q402 := eq_true q402))
    go_ret
    exact ⟨ze, zr3 HI0, zr4 HB HI0, zh0 HK⟩
   ·rw [if_neg c6] at H
    exact absurd H (by simp)
  ·rw [if_neg c5] at H
   exact absurd H (by simp)
 ·rw [if_neg c3] at H
  have c3b0 : (t393 == 0) = false := beq_eq_false_iff_ne.mpr c3
  have c3b1 : (t393 != 0) = true := bne_iff_ne.mpr c3
  replace H := jB.mp H
  obtain ⟨⟨t403, t404, t405⟩, A120, H⟩ := H
  try dsimp only at H
  have A12 := jA A120
  clear A120
  simp only [jM, jS] at H
  obtain ⟨rfl, rfl, rfl⟩ := H
  go_enter Try.func95, Try.ntmps95
  go_wp2_with (first | ((with_reducible refine jG (f := 79) rfl ?_); refine zL (some 4) Try.func79 #[.pointer (some ⟨g, 0, none⟩), .int .i64 24] ?_; (with_reducible refine (spec_l01Next.calls g s0_0 s0_1 s0_2 24 t393 t394 t395 w0 _ ?side1 ?side2 A2.out).mono ?_); (case side1 => exact zr3 HI0); (case side2 => exact zr4 HB HI0); rintro e w13 ⟨rfl, hi, hb, hk⟩; refine ⟨_, rfl, ?_⟩; replace HK := jA (KeepBut.trans (zh0 HK) hk (.inl rfl)); replace HB := jA (hb); replace HI0 := jA (hi); (try clear hb); (try clear hb2); (try clear hk); (try clear hi)) | ((with_reducible refine jG (f := 96) rfl ?_); refine zL (some 12) Try.func96 #[.pointer (some ⟨g, 0, none⟩)] ?_; (with_reducible refine (spec_l01Good.calls g s0_0 t394 t395 t403 t404 t405 w0 _ ?side1 ?side2 A12.out).mono ?_); (case side1 => exact zr3 HI0); (case side2 => exact zr4 HB HI0); rintro e w14 ⟨rfl, hi, hb, hk⟩; refine ⟨_, rfl, ?_⟩; replace HK := jA (KeepBut.trans (zh0 HK) hk (.inl rfl)); replace HB := jA (hb); replace HI0 := jA (hi); (try clear hb); (try clear hb2); (try clear hk); (try clear hi)))
  go_ret
  exact ⟨ze, zr3 HI0, zr4 HB HI0, zh0 HK⟩

end Go.Proofs.Ytdgglhfnlljmeaa.PFnMoved
