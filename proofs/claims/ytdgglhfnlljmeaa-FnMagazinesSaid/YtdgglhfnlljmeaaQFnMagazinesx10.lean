/- Functions and contracts that FnMagazines reaches (11 of 24). -/
import Derived.Test.YtdgglhfnlljmeaaQFnMagazinesx9
namespace Go.Proofs.Ytdgglhfnlljmeaa.PFnMagazines
open Go.RowKit Go.Proofs.YtdgglhfnlljmeaaW.PrintWords Go.Proofs.YtdgglhfnlljmeaaW.PrintLast Go.Proofs.YtdgglhfnlljmeaaW.PrintMore
attribute [local go_sem] max2_int min2_int max_two min_two max_three min_three max_four min_four   -- for this text's walks alone
set_option linter.unusedVariables false
set_option linter.unusedSimpArgs false

/-! ### spec_l01Next: function 79 -/
def spec_l01Next.f (s0_0 : List Int) (s0_1 : Int) (s0_2 : Int) (a1 : Int) : Option (Int × Int × Int) := if a1 ≤ 1 then (some (0, s0_1, s0_2)) else (if s0_1 < (s0_0.length : Int) then (if 0 ≤ s0_1 then (if a1 ≤ 256 then (if (Int.tmod (wrap64 (s0_1 + 1)) 2) = 0 then (if 0 ≤ (wrap64 ((wrap64 (s0_1 + 1)) - 1)) then (if (wrap64 ((wrap64 (s0_1 + 1)) - 1)) < (s0_0.length : Int) then (if a1 = 0 then (none) else (some (Int.tmod (wrap64 (rd s0_0 (wrap64 ((wrap64 (s0_1 + 1)) - 1)))) a1, wrap64 (s0_1 + 1), Int.tmod (wrap64 ((wrap64 (s0_2 * 48271)) + 29)) 2147483647))) else (none)) else (none)) else (if a1 = 0 then (none) else (some (Int.tmod (wrap64 ((wrap64 (Int.tdiv (Int.tmod (wrap64 ((wrap64 (s0_2 * 48271)) + 29)) 2147483647) 31)) + (wrap64 (rd s0_0 s0_1)))) a1, wrap64 (s0_1 + 1), Int.tmod (wrap64 ((wrap64 (s0_2 * 48271)) + 29)) 2147483647)))) else (if a1 = 0 then (none) else (some (Int.tmod (wrap64 ((wrap64 (Int.tdiv (Int.tmod (wrap64 ((wrap64 (s0_2 * 48271)) + 29)) 2147483647) 31)) + (wrap64 (rd s0_0 s0_1)))) a1, wrap64 (s0_1 + 1), Int.tmod (wrap64 ((wrap64 (s0_2 * 48271)) + 29)) 2147483647)))) else (none)) else (if a1 = 0 then (none) else (some (Int.tmod (wrap64 (Int.tdiv (Int.tmod (wrap64 ((wrap64 (s0_2 * 48271)) + 29)) 2147483647) 31)) a1, s0_1, Int.tmod (wrap64 ((wrap64 (s0_2 * 48271)) + 29)) 2147483647))))
set_option maxHeartbeats 8000000 in
set_option maxRecDepth 100000 in
theorem spec_l01Next.calls (g : Nat) (s0_0 : List Int) (s0_1 : Int) (s0_2 : Int) (a1 : Int) (r1 : Int) (r2 : Int) (r3 : Int) (w0 w : World) (hI : IsS92 w0 w g s0_0 s0_1 s0_2) (hB : Below w0.heap.size w0 w) (h : spec_l01Next.f s0_0 s0_1 s0_2 a1 = some (r1, r2, r3)) :
  Calls Try.prog 79 #[.pointer (some ⟨g, 0, none⟩), .int .i64 a1] w fun e w' => e = .returned (.int .i64 r1) ∧ IsS92 w0 w' g s0_0 r2 r3 ∧ Below w0.heap.size w0 w' ∧ KeepBut w w' g none := by
 have HI0 := jA hI
 have HK := jA (KeepBut.refl w g none)
 have HL := jA hB.size
 clear hI
 have HW0 := jA hB.size
 have HB := jA hB
 clear hB
 have H := h
 unfold spec_l01Next.f at H
 clear h
 by_cases c3 : a1 ≤ 1
 ·rw [if_pos c3] at H
  have c3b0 : decide (a1 ≤ 1) = true := jJ c3
  clear c3
  simp only [jN, jO] at H
  obtain ⟨rfl, rfl, rfl⟩ := H
  go_enter Try.func79, Try.ntmps79
  go_wp2
  repeat (go_quiet (fail); try go_wp2)
  go_ret
  exact ⟨ze, zr2 HI0, zr3 HB HI0, zh0 HK⟩
 ·rw [if_neg c3] at H
  have c3b0 : decide (a1 ≤ 1) = false := jQ c3
  clear c3
  by_cases c4 : s0_1 < (s0_0.length : Int)
  ·rw [if_pos c4] at H
   have c4b0 : decide (s0_1 < (s0_0.length : Int)) = true := jJ c4
   clear c4
   by_cases c5 : 0 ≤ s0_1
   ·rw [if_pos c5] at H
    have c5b0 : decide (0 ≤ s0_1) = true := jJ c5
    clear c5
    by_cases c6 : a1 ≤ 256
    ·rw [if_pos c6] at H
     have c6b0 : decide (a1 ≤ 256) = true := jJ c6
     clear c6
     by_cases c7 : (Int.tmod (wrap64 (s0_1 + 1)) 2) = 0
     ·rw [if_pos c7] at H
      have c7b0 : ((Int.tmod (wrap64 (s0_1 + 1)) 2) == 0) = true := beq_iff_eq.mpr c7
      have c7b1 : ((Int.tmod (wrap64 (s0_1 + 1)) 2) != 0) = false := bne_eq_false_iff_eq.mpr c7
      clear c7
      obtain ⟨ji8, hji8⟩ : ∃ j_ : Int, (wrap64 ((wrap64 (s0_1 + 1)) - 1)) = j_ := ⟨_, rfl⟩
      replace H : (if 0 ≤ (ji8) then (if (ji8) < (s0_0.length : Int) then (if a1 = 0 then (none) else (some (Int.tmod (wrap64 (rd s0_0 (ji8))) a1, wrap64 (s0_1 + 1), Int.tmod (wrap64 ((wrap64 (s0_2 * 48271)) + 29)) 2147483647))) else (none)) else (none)) = some (r1, r2, r3) := by first | (rw [hji8] at H; exact H) | (simp only [hji8] at H ⊢; exact H)
      have hji8w : (IntKind.i64.wrap ((wrap64 (s0_1 + 1)) - 1)) = ji8 := (i64_w _).trans hji8
      by_cases c9 : 0 ≤ (ji8)
      ·rw [if_pos c9] at H
       have c9b0 : decide (0 ≤ (ji8)) = true := jJ c9
       clear c9
       by_cases c10 : (ji8) < (s0_0.length : Int)
       ·rw [if_pos c10] at H
        have c10b0 : decide ((ji8) < (s0_0.length : Int)) = true := jJ c10
        clear c10
        by_cases c11 : a1 = 0
        ·rw [if_pos c11] at H
         exact absurd H (by simp)
        ·rw [if_neg c11] at H
         have c11b0 : (a1 == 0) = false := beq_eq_false_iff_ne.mpr c11
         have c11b1 : (a1 != 0) = true := bne_iff_ne.mpr c11
         simp only [jN, jO] at H
         obtain ⟨rfl, rfl, rfl⟩ := H
         obtain ⟨ASz12_0, cSz12_0, HGz12, hgz12, HSz12_0⟩ := HI0.out
         have hcz12_0 := cellS92_0 HGz12
         have hcz12_1 := cellS92_1 HGz12
         have hcz12_2 := cellS92_2 HGz12
         have hfz12_1 := blk_frozen HGz12 1
         have hfz12_2 := blk_frozen HGz12 2
         clear HGz12 hgz12
         have p213 : 0 ≤ (s0_1 : Int) := jC za
         have q213 : s0_1 < (s0_0.length : Int) := jC za
         obtain ⟨ad213, e213, hx213_0⟩ := Kd.at_int HSz12_0 s0_1 p213 q213
         cases e213
         have hn213_0 : ad213.block ≠ g := Nat.ne_of_lt (Nat.lt_of_lt_of_le (by have := World.block_lt_of_cell? _ _ hx213_0; first | rwa [add_block] at this | exact this) (IsS92.ge HI0.out))
         replace hx213_0 := pw_cell_below HB.out hx213_0
         replace hx213_0 := (jP (p := ⟨g, 2, none⟩) (zf hn213_0) (.int .i64 (Int.tmod (wrap64 ((wrap64 (s0_2 * 48271)) + 29)) 2147483647))).trans hx213_0
         (try have hy213_0 := fun (n_ : Nat) => (show (((w.drewN n_).setCell ⟨g, 2, none⟩ (.int .i64 (Int.tmod (wrap64 ((wrap64 (s0_2 * 48271)) + 29)) 2147483647)))).cell? _ = some _ from hx213_0))
         clear hn213_0
         replace p213 := eq_true p213
         replace q213 := eq_true q213
         have p214 : 0 ≤ ((ji8) : Int) := jC za
         have q214 : (ji8) < (s0_0.length : Int) := jC za
         obtain ⟨ad214, e214, hx214_0⟩ := Kd.at_int HSz12_0 (ji8) p214 q214
         obtain rfl : ad213 = ad214 := (by injection e214)
         have hn214_0 : ad213.block ≠ g := Nat.ne_of_lt (Nat.lt_of_lt_of_le (by have := World.block_lt_of_cell? _ _ hx214_0; first | rwa [add_block] at this | exact this) (IsS92.ge HI0.out))
         have hn214_1 : ad213.block ≠ g := Nat.ne_of_lt (Nat.lt_of_lt_of_le (by have := World.block_lt_of_cell? _ _ hx214_0; first | rwa [add_block] at this | exact this) (IsS92.ge HI0.out))
         replace hx214_0 := pw_cell_below HB.out hx214_0
         replace hx214_0 := (jP (p := ⟨g, 2, none⟩) (zf hn214_0) (.int .i64 (Int.tmod (wrap64 ((wrap64 (s0_2 * 48271)) + 29)) 2147483647))).trans hx214_0
         replace hx214_0 := (jP (p := ⟨g, 1, none⟩) (zf hn214_1) (.int .i64 (wrap64 (s0_1 + 1)))).trans hx214_0
         (try have hy214_0 := fun (n_ : Nat) => (show ((((w.drewN n_).setCell ⟨g, 2, none⟩ (.int .i64 (Int.tmod (wrap64 ((wrap64 (s0_2 * 48271)) + 29)) 2147483647))).setCell ⟨g, 1, none⟩ (.int .i64 (wrap64 (s0_1 + 1))))).cell? _ = some _ from hx214_0))
         (try have hv214_0 := fun (n_ : Nat) => (show ((((w.setCell ⟨g, 2, none⟩ (.int .i64 (Int.tmod (wrap64 ((wrap64 (s0_2 * 48271)) + 29)) 2147483647))).drewN n_).setCell ⟨g, 1, none⟩ (.int .i64 (wrap64 (s0_1 + 1))))).cell? _ = some _ from hx214_0))
         clear hn214_0
         clear hn214_1
         replace p214 := eq_true p214
         replace q214 := eq_true q214
         go_enter Try.func79, Try.ntmps79
         go_wp2
         repeat (go_quiet (fail); try go_wp2)
         go_ret
         exact ⟨by first | rfl | (simp [errW_none, errW_some] <;> rfl) | (simp only [← hji8]; first | rfl | (simp [errW_none, errW_some] <;> rfl)) | (simp [*, errW_none, errW_some] <;> rfl), zr2 HI0, zr3 HB HI0, zh0 HK⟩
       ·rw [if_neg c10] at H
        exact absurd H (by simp)
      ·rw [if_neg c9] at H
       exact absurd H (by simp)
     ·rw [if_neg c7] at H
      have c7b0 : ((Int.tmod (wrap64 (s0_1 + 1)) 2) == 0) = false := beq_eq_false_iff_ne.mpr c7
      have c7b1 : ((Int.tmod (wrap64 (s0_1 + 1)) 2) != 0) = true := bne_iff_ne.mpr c7
      by_cases c13 : a1 = 0
      ·rw [if_pos c13] at H
       exact absurd H (by simp)
      ·rw [if_neg c13] at H
       have c13b0 : (a1 == 0) = false := beq_eq_false_iff_ne.mpr c13
       have c13b1 : (a1 != 0) = true := bne_iff_ne.mpr c13
       simp only [jN, jO] at H
       obtain ⟨rfl, rfl, rfl⟩ := H
       obtain ⟨ASz14_0, cSz14_0, HGz14, hgz14, HSz14_0⟩ := HI0.out
       have hcz14_0 := cellS92_0 HGz14
       have hcz14_1 := cellS92_1 HGz14
       have hcz14_2 := cellS92_2 HGz14
       have hfz14_1 := blk_frozen HGz14 1
       have hfz14_2 := blk_frozen HGz14 2
       clear HGz14 hgz14
       have p213 : 0 ≤ (s0_1 : Int) := jC za
       have q213 : s0_1 < (s0_0.length : Int) := jC za
       obtain ⟨ad213, e213, hx213_0⟩ := Kd.at_int HSz14_0 s0_1 p213 q213
       cases e213
       have hn213_0 : ad213.block ≠ g := Nat.ne_of_lt (Nat.lt_of_lt_of_le (by have := World.block_lt_of_cell? _ _ hx213_0; first | rwa [add_block] at this | exact this) (IsS92.ge HI0.out))
       replace hx213_0 := pw_cell_below HB.out hx213_0
       replace hx213_0 := (jP (p := ⟨g, 2, none⟩) (zf hn213_0) (.int .i64 (Int.tmod (wrap64 ((wrap64 (s0_2 * 48271)) + 29)) 2147483647))).trans hx213_0
       (try have hy213_0 := fun (n_ : Nat) => (show (((w.drewN n_).setCell ⟨g, 2, none⟩ (.int .i64 (Int.tmod (wrap64 ((wrap64 (s0_2 * 48271)) + 29)) 2147483647)))).cell? _ = some _ from hx213_0))
       clear hn213_0
       replace p213 := eq_true p213
       replace q213 := eq_true q213
       go_enter Try.func79, Try.ntmps79
       go_wp2
       repeat (go_quiet (fail); try go_wp2)
       go_ret
       exact ⟨ze, zr2 HI0, zr3 HB HI0, zh0 HK⟩
    ·rw [if_neg c6] at H
     have c6b0 : decide (a1 ≤ 256) = false := jQ c6
     clear c6
     by_cases c15 : a1 = 0
     ·rw [if_pos c15] at H
      exact absurd H (by simp)
     ·rw [if_neg c15] at H
      have c15b0 : (a1 == 0) = false := beq_eq_false_iff_ne.mpr c15
      have c15b1 : (a1 != 0) = true := bne_iff_ne.mpr c15
      simp only [jN, jO] at H
      obtain ⟨rfl, rfl, rfl⟩ := H
      obtain ⟨ASz16_0, cSz16_0, HGz16, hgz16, HSz16_0⟩ := HI0.out
      have hcz16_0 := cellS92_0 HGz16
      have hcz16_1 := cellS92_1 HGz16
      have hcz16_2 := cellS92_2 HGz16
      have hfz16_1 := blk_frozen HGz16 1
      have hfz16_2 := blk_frozen HGz16 2
      clear HGz16 hgz16
      have p213 : 0 ≤ (s0_1 : Int) := jC za
      have q213 : s0_1 < (s0_0.length : Int) := jC za
      obtain ⟨ad213, e213, hx213_0⟩ := Kd.at_int HSz16_0 s0_1 p213 q213
      cases e213
      have hn213_0 : ad213.block ≠ g := Nat.ne_of_lt (Nat.lt_of_lt_of_le (by have := World.block_lt_of_cell? _ _ hx213_0; first | rwa [add_block] at this | exact this) (IsS92.ge HI0.out))
      replace hx213_0 := pw_cell_below HB.out hx213_0
      replace hx213_0 := (jP (p := ⟨g, 2, none⟩) (zf hn213_0) (.int .i64 (Int.tmod (wrap64 ((wrap64 (s0_2 * 48271)) + 29)) 2147483647))).trans hx213_0
      (try have hy213_0 := fun (n_ : Nat) => (show (((w.drewN n_).setCell ⟨g, 2, none⟩ (.int .i64 (Int.tmod (wrap64 ((wrap64 (s0_2 * 48271)) + 29)) 2147483647)))).cell? _ = some _ from hx213_0))
      clear hn213_0
      replace p213 := eq_true p213
      replace q213 := eq_true q213
      go_enter Try.func79, Try.ntmps79
      go_wp2
      repeat (go_quiet (fail); try go_wp2)
      go_ret
      exact ⟨ze, zr2 HI0, zr3 HB HI0, zh0 HK⟩
   ·rw [if_neg c5] at H
    exact absurd H (by simp)
  ·rw [if_neg c4] at H
   have c4b0 : decide (s0_1 < (s0_0.length : Int)) = false := jQ c4
   clear c4
   by_cases c17 : a1 = 0
   ·rw [if_pos c17] at H
    exact absurd H (by simp)
   ·rw [if_neg c17] at H
    have c17b0 : (a1 == 0) = false := beq_eq_false_iff_ne.mpr c17
    have c17b1 : (a1 != 0) = true := bne_iff_ne.mpr c17
    simp only [jN, jO] at H
    obtain ⟨rfl, rfl, rfl⟩ := H
    obtain ⟨ASz18_0, cSz18_0, HGz18, hgz18, HSz18_0⟩ := HI0.out
    have hcz18_0 := cellS92_0 HGz18
    have hcz18_1 := cellS92_1 HGz18
    have hcz18_2 := cellS92_2 HGz18
    have hfz18_1 := blk_frozen HGz18 1
    have hfz18_2 := blk_frozen HGz18 2
    clear HGz18 hgz18
    go_enter Try.func79, Try.ntmps79
    go_wp2
    repeat (go_quiet (fail); try go_wp2)
    go_ret
    exact ⟨ze, zr2 HI0, zr3 HB HI0, zh0 HK⟩

/-! ### spec_l01Pick: function 78 -/
def spec_l01Pick.f (s0_0 : List Int) (s0_1 : Int) (s0_2 : Int) (l1 : List Int) : Option (Int × Int × Int) := (spec_l01Next.f s0_0 s0_1 s0_2 (l1.length : Int)).bind fun bt215 => (if 0 ≤ bt215.1 then (if bt215.1 < (l1.length : Int) then (some (rd l1 bt215.1, bt215.2.1, bt215.2.2)) else (none)) else (none))
set_option maxHeartbeats 8000000 in
set_option maxRecDepth 100000 in
theorem spec_l01Pick.calls (g : Nat) (s0_0 : List Int) (s0_1 : Int) (s0_2 : Int) (A1 : Option Addr) (c1 : Nat) (l1 : List Int) (r1 : Int) (r2 : Int) (r3 : Int) (w0 w : World) (hI : IsS92 w0 w g s0_0 s0_1 s0_2) (hB : Below w0.heap.size w0 w) (hr1 : Kd.C (Kd.int .i64) w A1 l1.length l1) (hc1 : l1.length ≤ c1) (hf1 : ∀ ad, A1 = some ad → 0 < l1.length → ad.block ≠ g) (h : spec_l01Pick.f s0_0 s0_1 s0_2 l1 = some (r1, r2, r3)) :
  Calls Try.prog 78 #[.pointer (some ⟨g, 0, none⟩), .slice A1 l1.length c1] w fun e w' => e = .returned (.int .i64 r1) ∧ IsS92 w0 w' g s0_0 r2 r3 ∧ Below w0.heap.size w0 w' ∧ KeepBut w w' g none := by
 have HR1 := jA hr1
 have HC1 := jA hc1
 clear hr1 hc1
 have HI0 := jA hI
 have HK := jA (KeepBut.refl w g none)
 have HL := jA hB.size
 clear hI
 have HW0 := jA hB.size
 have HB := jA hB
 clear hB
 have H := h
 unfold spec_l01Pick.f at H
 clear h
 replace H := jB.mp H
 obtain ⟨⟨t215, t216, t217⟩, A30, H⟩ := H
 try dsimp only at H
 have A3 := jA A30
 clear A30
 by_cases c4 : 0 ≤ t215
 ·rw [if_pos c4] at H
  have c4b0 : decide (0 ≤ t215) = true := jJ c4
  clear c4
  by_cases c5 : t215 < (l1.length : Int)
  ·rw [if_pos c5] at H
   have c5b0 : decide (t215 < (l1.length : Int)) = true := jJ c5
   clear c5
   simp only [jN, jO] at H
   obtain ⟨rfl, rfl, rfl⟩ := H
   go_enter Try.func78, Try.ntmps78
   go_wp2_with (first | ((with_reducible refine jD (f := 79) rfl ?_); refine zL (some 9) Try.func79 #[.pointer (some ⟨g, 0, none⟩), .int .i64 (l1.length : Int)] ?_; (with_reducible refine (spec_l01Next.calls g s0_0 s0_1 s0_2 (l1.length : Int) t215 t216 t217 w0 _ ?side1 ?side2 A3.out).mono ?_); (case side1 => exact zr2 HI0); (case side2 => exact zr3 HB HI0); rintro e w6 ⟨rfl, hi, hb, hk⟩; refine ⟨_, rfl, ?_⟩; replace HK := jA (KeepBut.trans (zh0 HK) hk (.inl rfl)); replace HB := jA (hb); replace HI0 := jA (hi); (try clear hb); (try clear hb2); (try clear hk); (try clear hi); have p218 : 0 ≤ (t215 : Int) := jC za; have q218 : t215 < (l1.length : Int) := jC za; obtain ⟨ad218, e218, hx218_0⟩ := Kd.at_int HR1.out t215 p218 q218; cases e218; replace hx218_0 := keep_cell HK.out hx218_0 (by first | (rw [add_block]; exact hf1 _ rfl (by omega)) | exact hf1 _ rfl (by omega) | exact hf1 ad218 rfl (by omega)); replace p218 := eq_true p218; replace q218 := eq_true q218))
   go_ret
   exact ⟨ze, zr2 HI0, zr3 HB HI0, zh0 HK⟩
  ·rw [if_neg c5] at H
   exact absurd H (by simp)
 ·rw [if_neg c4] at H
  exact absurd H (by simp)

end Go.Proofs.Ytdgglhfnlljmeaa.PFnMagazines
