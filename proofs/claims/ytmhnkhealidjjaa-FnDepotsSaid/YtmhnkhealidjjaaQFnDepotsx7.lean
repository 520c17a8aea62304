/- Functions and contracts that FnDepots reaches (8 of 11). -/
import Derived.Test.YtmhnkhealidjjaaQFnDepotsx6
namespace Go.Proofs.Ytmhnkhealidjjaa.PFnDepots
open Go.RowKit Go.Proofs.YtmhnkhealidjjaaW.PrintWords Go.Proofs.YtmhnkhealidjjaaW.PrintLast Go.Proofs.YtmhnkhealidjjaaW.PrintMore
attribute [local go_sem] max2_int min2_int max_two min_two max_three min_three max_four min_four   -- for this text's walks alone
set_option linter.unusedVariables false
set_option linter.unusedSimpArgs false

/-! ### spec_l01Next: function 69 -/
def spec_l01Next.f (s0_0 : List Int) (s0_1 : Int) (s0_2 : Int) (a1 : Int) : Option (Int × Int × Int) := if a1 ≤ 1 then (some (0, s0_1, s0_2)) else (if s0_1 < (s0_0.length : Int) then (if 0 ≤ s0_1 then (if a1 ≤ 256 then (if (Int.tmod (wrap64 (s0_1 + 1)) 2) = 0 then (if 0 ≤ (wrap64 ((wrap64 (s0_1 + 1)) - 1)) then (if (wrap64 ((wrap64 (s0_1 + 1)) - 1)) < (s0_0.length : Int) then (if a1 = 0 then (none) else (some (Int.tmod (wrap64 (rd s0_0 (wrap64 ((wrap64 (s0_1 + 1)) - 1)))) a1, wrap64 (s0_1 + 1), Int.tmod (wrap64 ((wrap64 (s0_2 * 48271)) + 29)) 2147483647))) else (none)) else (none)) else (if a1 = 0 then (none) else (some (Int.tmod (wrap64 ((wrap64 (Int.tdiv (Int.tmod (wrap64 ((wrap64 (s0_2 * 48271)) + 29)) 2147483647) 31)) + (wrap64 (rd s0_0 s0_1)))) a1, wrap64 (s0_1 + 1), Int.tmod (wrap64 ((wrap64 (s0_2 * 48271)) + 29)) 2147483647)))) else (if a1 = 0 then (none) else (some (Int.tmod (wrap64 ((wrap64 (Int.tdiv (Int.tmod (wrap64 ((wrap64 (s0_2 * 48271)) + 29)) 2147483647) 31)) + (wrap64 (rd s0_0 s0_1)))) a1, wrap64 (s0_1 + 1), Int.tmod (wrap64 ((wrap64 (s0_2 * 48271)) + 29)) 2147483647)))) else (none)) else (if a1 = 0 then (none) else (some (Int.tmod (wrap64 (Int.tdiv (Int.tmod (wrap64 ((wrap64 (s0_2 * 48271)) + 29)) 2147483647) 31)) a1, s0_1, Int.tmod (wrap64 ((wrap64 (s0_2 * 48271)) + 29)) 2147483647))))
set_option maxHeartbeats 8000000 in
set_option maxRecDepth 100000 in
theorem spec_l01Next.calls (g : Nat) (s0_0 : List Int) (s0_1 : Int) (s0_2 : Int) (a1 : Int) (r1 : Int) (r2 : Int) (r3 : Int) (w0 w : World) (hI : IsS86 w0 w g s0_0 s0_1 s0_2) (hB : Below w0.heap.size w0 w) (h : spec_l01Next.f s0_0 s0_1 s0_2 a1 = some (r1, r2, r3)) :
  Calls Try.prog 69 #[.pointer (some ⟨g, 0, none⟩), .int .i64 a1] w fun e w' => e = .returned (.int .i64 r1) ∧ IsS86 w0 w' g s0_0 r2 r3 ∧ Below w0.heap.size w0 w' ∧ KeepBut w w' g none := by
 have HI0 := jA hI
 have HK := jA (KeepBut.refl w g none)
 have HL := jA hB.size
 clear hI
 have HW0 := jA hB.size
 have HB := jA hB
 clear hB
 have H : (if a1 ≤ 1 then (some (0, s0_1, s0_2)) else (if s0_1 < (s0_0.length : Int) then (if 0 ≤ s0_1 then (if a1 ≤ 256 then (if (Int.tmod (wrap64 (s0_1 + 1)) 2) = 0 then (if 0 ≤ (wrap64 ((wrap64 (s0_1 + 1)) - 1)) then (if (wrap64 ((wrap64 (s0_1 + 1)) - 1)) < (s0_0.length : Int) then (if a1 = 0 then (none) else (some (Int.tmod (wrap64 (rd s0_0 (wrap64 ((wrap64 (s0_1 + 1)) - 1)))) a1, wrap64 (s0_1 + 1), Int.tmod (wrap64 ((wrap64 (s0_2 * 48271)) + 29)) 2147483647))) else (none)) else (none)) else (if a1 = 0 then (none) else (some (Int.tmod (wrap64 ((wrap64 (Int.tdiv (Int.tmod (wrap64 ((wrap64 (s0_2 * 48271)) + 29)) 2147483647) 31)) + (wrap64 (rd s0_0 s0_1)))) a1, wrap64 (s0_1 + 1), Int.tmod (wrap64 ((wrap64 (s0_2 * 48271)) + 29)) 2147483647)))) else (if a1 = 0 then (none) else (some (Int.tmod (wrap64 ((wrap64 (Int.tdiv (Int.tmod (wrap64 ((wrap64 (s0_2 * 48271)) + 29)) 2147483647) 31)) + (wrap64 (rd s0_0 s0_1)))) a1, wrap64 (s0_1 + 1), Int.tmod (wrap64 ((wrap64 (s0_2 * 48271)) + 29)) 2147483647)))) else (none)) else (if a1 = 0 then (none) else (some (Int.tmod (wrap64 (Int.tdiv (Int.tmod (wrap64 ((wrap64 (s0_2 * 48271)) + 29)) 2147483647) 31)) a1, s0_1, Int.tmod (wrap64 ((wrap64 (s0_2 * 48271)) + 29)) 2147483647))))) = some (r1, r2, r3) := h
 clear h
 by_cases c3 : a1 ≤ 1
 ·rw [if_pos c3] at H
  have c3b0 : decide (a1 ≤ 1) = true := jG c3
  clear c3
  simp only [jU, jY] at H
  obtain ⟨rfl, rfl, rfl⟩ := H
  go_enter Try.func69, Try.ntmps69
  go_wp2
  repeat (go_quiet (fail); try go_wp2)
  go_ret
  exact ⟨by first | rfl | (simp [errW_none, errW_some] <;> rfl) | (simp [*, errW_none, errW_some] <;> rfl), by repeat (first | (with_reducible first | exact HI0.out | apply IsS86.alloc | apply IsS86.drewN | apply IsS86.drew | apply IsS86.set_1 | apply IsS86.set_2) | exact HI0.out), by repeat (first | (with_reducible first | exact HB.out | apply jP | apply jK | apply jL | refine jQ ?_ (IsS86.ge HI0.out)) | exact HB.out), zh0 HK⟩
 ·rw [if_neg c3] at H
  have c3b0 : decide (a1 ≤ 1) = false := jb c3
  clear c3
  by_cases c4 : s0_1 < (s0_0.length : Int)
  ·rw [if_pos c4] at H
   have c4b0 : decide (s0_1 < (s0_0.length : Int)) = true := jG c4
   clear c4
   by_cases c5 : 0 ≤ s0_1
   ·rw [if_pos c5] at H
    have c5b0 : decide (0 ≤ s0_1) = true := jG c5
    clear c5
    by_cases c6 : a1 ≤ 256
    ·rw [if_pos c6] at H
     have c6b0 : decide (a1 ≤ 256) = true := jG c6
     clear c6
     by_cases c7 : (Int.tmod (wrap64 (s0_1 + 1)) 2) = 0
     ·rw [if_pos c7] at H
      have c7b0 : ((Int.tmod (wrap64 (s0_1 + 1)) 2) == 0) = true := beq_iff_eq.mpr c7
      have c7b1 : ((Int.tmod (wrap64 (s0_1 + 1)) 2) != 0) = false := bne_eq_false_iff_eq.mpr c7
      clear c7
      obtain ⟨ji8, hji8⟩ : ∃ j_ : Int, (wrap64 ((wrap64 (s0_1 + 1)) - 1)) = j_ := ⟨_, rfl⟩
      replace H : (if 0 ≤ (ji8) then (if (ji8) < (s0_0.length : Int) then (if a1 = 0 then (none) else (some (Int.tmod (wrap64 (rd s0_0 (ji8))) a1, wrap64 (s0_1 + 1), Int.tmod (wrap64 ((wrap64 (s0_2 * 48271)) + 29)) 2147483647))) else (none)) else (none)) = some (r1, r2, r3) := by first | (rw [hji8] at H; exact H) | (simp only [hji8] at H ⊢; exact H)
      have hji8w : (IntKind.i64.wrap ((wrap64 (s0_1 + 1)) - 1)) = ji8 := (i64_w _).trans hji8
      by_cases c9 : 0 ≤ (ji8)
      ·rw [if_pos c9] at H
       have c9b0 : decide (0 ≤ (ji8)) = true := jG c9
       clear c9
       by_cases c10 : (ji8) < (s0_0.length : Int)
       ·rw [if_pos c10] at H
        have c10b0 : decide ((ji8) < (s0_0.length : Int)) = true := jG c10
        clear c10
        by_cases c11 : a1 = 0
        ·rw [if_pos c11] at H
         exact absurd H (by simp)
        ·rw [if_neg c11] at H
         have c11b0 : (a1 == 0) = false := beq_eq_false_iff_ne.mpr c11
         have c11b1 : (a1 != 0) = true := bne_iff_ne.mpr c11
         simp only [jU, jY] at H
         obtain ⟨rfl, rfl, rfl⟩ := H
         obtain ⟨ASz12_0, cSz12_0, HGz12, hgz12, HSz12_0⟩ := HI0.out
         have hcz12_0 := cellS86_0 HGz12
         have hcz12_1 := cellS86_1 HGz12
         have hcz12_2 := cellS86_2 HGz12
         have hfz12_1 := jV HGz12 1
         have hfz12_2 := jV HGz12 2
         clear HGz12 hgz12
         have p224 : 0 ≤ (s0_1 : Int) := jB za
         have q224 : s0_1 < (s0_0.length : Int) := jB za
         obtain ⟨ad224, e224, hx224_0⟩ := Kd.at_int HSz12_0 s0_1 p224 q224
         cases e224
         have hn224_0 : ad224.block ≠ g := Nat.ne_of_lt (Nat.lt_of_lt_of_le (by have := jC _ _ hx224_0; first | rwa [add_block] at this | exact this) (IsS86.ge HI0.out))
         replace hx224_0 := pw_cell_below HB.out hx224_0
         replace hx224_0 := (cell_far (p := ⟨g, 2, none⟩) (by first | (rw [add_block]; exact hn224_0) | (show (Addr.add _ _).block ≠ _; rw [add_block]; exact hn224_0) | exact hn224_0) (.int .i64 (Int.tmod (wrap64 ((wrap64 (s0_2 * 48271)) + 29)) 2147483647))).trans hx224_0
         (try have hy224_0 := fun (n_ : Nat) => (show (((w.drewN n_).setCell ⟨g, 2, none⟩ (.int .i64 (Int.tmod (wrap64 ((wrap64 (s0_2 * 48271)) + 29)) 2147483647)))).cell? _ = some _ from hx224_0))
         clear hn224_0
         replace p224 := eq_true p224
         replace q224 := eq_true q224
         have p225 : 0 ≤ ((ji8) : Int) := jB za
         have q225 : (ji8) < (s0_0.length : Int) := jB za
         obtain ⟨ad225, e225, hx225_0⟩ := Kd.at_int HSz12_0 (ji8) p225 q225
         obtain rfl : ad224 = ad225 := (by injection e225)
         have hn225_0 : ad224.block ≠ g := Nat.ne_of_lt (Nat.lt_of_lt_of_le (by have := jC _ _ hx225_0; first | rwa [add_block] at this | exact this) (IsS86.ge HI0.out))
         have hn225_1 : ad224.block ≠ g := Nat.ne_of_lt (Nat.lt_of_lt_of_le (by have := jC _ _ hx225_0; first | rwa [add_block] at this | exact this) (IsS86.ge HI0.out))
         replace hx225_0 := pw_cell_below HB.out hx225_0
         replace hx225_0 := (cell_far (p := ⟨g, 2, none⟩) (by first | (rw [add_block]; exact hn225_0) | (show (Addr.add _ _).block ≠ _; rw [add_block]; exact hn225_0) | exact hn225_0) (.int .i64 (Int.tmod (wrap64 ((wrap64 (s0_2 * 48271)) + 29)) 2147483647))).trans hx225_0
         replace hx225_0 := (cell_far (p := ⟨g, 1, none⟩) (by first | (rw [add_block]; exact hn225_1) | (show (Addr.add _ _).block ≠ _; rw [add_block]; exact hn225_1) | exact hn225_1) (.int .i64 (wrap64 (s0_1 + 1)))).trans hx225_0
         (try have hy225_0 := fun (n_ : Nat) => (show ((((w.drewN n_).setCell ⟨g, 2, none⟩ (.int .i64 (Int.tmod (wrap64 ((wrap64 (s0_2 * 48271)) + 29)) 2147483647))).setCell ⟨g, 1, none⟩ (.int .i64 (wrap64 (s0_1 + 1))))).cell? _ = some _ from hx225_0))
         (try have hv225_0 := fun (n_ : Nat) => (show ((((w.setCell ⟨g, 2, none⟩ (.int .i64 (Int.tmod (wrap64 ((wrap64 (s0_2 * 48271)) + 29)) 2147483647))).drewN n_).setCell ⟨g, 1, none⟩ (.int .i64 (wrap64 (s0_1 + 1))))).cell? _ = some _ from hx225_0))
         clear hn225_0
         clear hn225_1
         replace p225 := eq_true p225
         replace q225 := eq_true q225
         go_enter Try.func69, Try.ntmps69
         go_wp2
         repeat (go_quiet (fail); try go_wp2)
         go_ret
         exact ⟨by first | rfl | (simp [errW_none, errW_some] <;> rfl) | (simp only [← hji8]; first | rfl | (simp [errW_none, errW_some] <;> rfl)) | (simp [*, errW_none, errW_some] <;> rfl), by repeat (first | (with_reducible first | exact HI0.out | apply IsS86.alloc | apply IsS86.drewN | apply IsS86.drew | apply IsS86.set_1 | apply IsS86.set_2) | exact HI0.out), by repeat (first | (with_reducible first | exact HB.out | apply jP | apply jK | apply jL | refine jQ ?_ (IsS86.ge HI0.out)) | exact HB.out), zh0 HK⟩
       ·rw [if_neg c10] at H
        exact absurd H (by simp)
      ·rw [if_neg c9] at H
       exact absurd H (by simp)
     ·rw [if_neg c7] at H
      have c7b0 : ((Int.tmod (wrap64 (s0_1 + 1)) 2) == 0) = false := beq_eq_false_iff_ne.mpr c7
      have c7b1 : ((Int.tmod (wrap64 (s0_1 + 1)) 2) != 0) = true := bne_iff_ne.mpr c7
      by_cases c13 : a1 = 0
      ·rw [if_pos c13] at H
       exact absurd H (by simp)
      ·rw [if_neg c13] at H
       have c13b0 : (a1 == 0) = false := beq_eq_false_iff_ne.mpr c13
       have c13b1 : (a1 != 0) = true := bne_iff_ne.mpr c13
       simp only [jU, jY] at H
       obtain ⟨rfl, rfl, rfl⟩ := H
       obtain ⟨ASz14_0, cSz14_0, HGz14, hgz14, HSz14_0⟩ := HI0.out
       have hcz14_0 := cellS86_0 HGz14
       have hcz14_1 := cellS86_1 HGz14
       have hcz14_2 := cellS86_2 HGz14
       have hfz14_1 := jV HGz14 1
       have hfz14_2 := jV HGz14 2
       clear HGz14 hgz14
       have p224 : 0 ≤ (s0_1 : Int) := jB za
       have q224 : s0_1 < (s0_0.length : Int) := jB za
       obtain ⟨ad224, e224, hx224_0⟩ := Kd.at_int HSz14_0 s0_1 p224 q224
       cases e224
       have hn224_0 : ad224.block ≠ g := Nat.ne_of_lt (Nat.lt_of_lt_of_le (by have := jC _ _ hx224_0; first | rwa [add_block] at this | exact this) (IsS86.ge HI0.out))
       replace hx224_0 := pw_cell_below HB.out hx224_0
       replace hx224_0 := (cell_far (p := ⟨g, 2, none⟩) (by first | (rw [add_block]; exact hn224_0) | (show (Addr.add _ _).block ≠ _; rw [add_block]; exact hn224_0) | exact hn224_0) (.int .i64 (Int.tmod (wrap64 ((wrap64 (s0_2 * 48271)) + 29)) 2147483647))).trans hx224_0
       (try have hy224_0 := fun (n_ : Nat) => (show (((w.drewN n_).setCell ⟨g, 2, none⟩ (.int .i64 (Int.tmod (wrap64 ((wrap64 (s0_2 * 48271)) + 29)) 2147483647)))).cell? _ = some _ from hx224_0))
       clear hn224_0
       replace p224 := eq_true p224
       replace q224 := eq_true q224
       go_enter Try.func69, Try.ntmps69
       go_wp2
       repeat (go_quiet (fail); try go_wp2)
       go_ret
       exact ⟨by first | rfl | (simp [errW_none, errW_some] <;> rfl) | (simp [*, errW_none, errW_some] <;> rfl), by repeat (first | (with_reducible first | exact HI0.out | apply IsS86.alloc | apply IsS86.drewN | apply IsS86.drew | apply IsS86.set_1 | apply IsS86.set_2) | exact HI0.out), by repeat (first | (with_reducible first | exact HB.out | apply jP | apply jK | apply jL | refine jQ ?_ (IsS86.ge HI0.out)) | exact HB.out), zh0 HK⟩
    ·rw [if_neg c6] at H
     have c6b0 : decide (a1 ≤ 256) = false := jb c6
     clear c6
     by_cases c15 : a1 = 0
     ·rw [if_pos c15] at H
      exact absurd H (by simp)
     ·rw [if_neg c15] at H
      have c15b0 : (a1 == 0) = false := beq_eq_false_iff_ne.mpr c15
      have c15b1 : (a1 != 0) = true := bne_iff_ne.mpr c15
      simp only [jU, jY] at H
      obtain ⟨rfl, rfl, rfl⟩ := H
      obtain ⟨ASz16_0, cSz16_0, HGz16, hgz16, HSz16_0⟩ := HI0.out
      have hcz16_0 := cellS86_0 HGz16
      have hcz16_1 := cellS86_1 HGz16
      have hcz16_2 := cellS86_2 HGz16
      have hfz16_1 := jV HGz16 1
      have hfz16_2 := jV HGz16 2
      clear HGz16 hgz16
      have p224 : 0 ≤ (s0_1 : Int) := jB za
      have q224 : s0_1 < (s0_0.length : Int) := jB za
      obtain ⟨ad224, e224, hx224_0⟩ := Kd.at_int HSz16_0 s0_1 p224 q224
      cases e224
      have hn224_0 : ad224.block ≠ g := Nat.ne_of_lt (Nat.lt_of_lt_of_le (by have := jC _ _ hx224_0; first | rwa [add_block] at this | exact this) (IsS86.ge HI0.out))
      replace hx224_0 := pw_cell_below HB.out hx224_0
      replace hx224_0 := (cell_far (p := ⟨g, 2, none⟩) (by first | (rw [add_block]; exact hn224_0) | (show (Addr.add _ _).block ≠ _; rw [add_block]; exact hn224_0) | exact hn224_0) (.int .i64 (Int.tmod (wrap64 ((wrap64 (s0_2 * 48271)) + 29)) 2147483647))).trans hx224_0
      (try have hy224_0 := fun (n_ : Nat) => (show (((w.drewN n_).setCell ⟨g, 2, none⟩ (.int .i64 (Int.tmod (wrap64 ((wrap64 (s0_2 * 48271)) + 29)) 2147483647)))).cell? _ = some _ from hx224_0))
      clear hn224_0
      replace p224 := eq_true p224
      replace q224 := eq_true q224
      go_enter Try.func69, Try.ntmps69
      go_wp2
      repeat (go_quiet (fail); try go_wp2)
      go_ret
      exact ⟨by first | rfl | (simp [errW_none, errW_some] <;> rfl) | (simp [*, errW_none, errW_some] <;> rfl), by repeat (first | (with_reducible first | exact HI0.out | apply IsS86.alloc | apply IsS86.drewN | apply IsS86.drew | apply IsS86.set_1 | apply IsS86.set_2) | exact HI0.out), by repeat (first | (with_reducible first | exact HB.out | apply jP | apply jK | apply jL | refine jQ ?_ (IsS86.ge HI0.out)) | exact HB.out), zh0 HK⟩
   ·rw [if_neg c5] at H
    exact absurd H (by simp)
  ·rw [if_neg c4] at H
   have c4b0 : decide (s0_1 < (s0_0.length : Int)) = false := jb c4
   clear c4
   by_cases c17 : a1 = 0
   ·rw [if_pos c17] at H
    exact absurd H (by simp)
   ·rw [if_neg c17] at H
    have c17b0 : (a1 == 0) = false := beq_eq_false_iff_ne.mpr c17
    have c17b1 : (a1 != 0) = true := bne_iff_ne.mpr c17
    simp only [jU, jY] at H
    obtain ⟨rfl, rfl, rfl⟩ := H
    obtain ⟨ASz18_0, cSz18_0, HGz18, hgz18, HSz18_0⟩ := HI0.out
    have hcz18_0 := cellS86_0 HGz18
    have hcz18_1 := cellS86_1 HGz18
    have hcz18_2 := cellS86_2 HGz18
    have hfz18_1 := jV HGz18 1
    have hfz18_2 := jV HGz18 2
    clear HGz18 hgz18
    go_enter Try.func69, Try.ntmps69
    go_wp2
    repeat (go_quiet (fail); try go_wp2)
    go_ret
    exact ⟨by first | rfl | (simp [errW_none, errW_some] <;> rfl) | (simp [*, errW_none, errW_some] <;> rfl), by repeat (first | (with_reducible first | exact HI0.out | apply IsS86.alloc | apply IsS86.drewN | apply IsS86.drew | apply IsS86.set_1 | apply IsS86.set_2) | exact HI0.out), by repeat (first | (with_reducible first | exact HB.out | apply jP | apply jK | apply jL | refine jQ ?_ (IsS86.ge HI0.out)) | exact HB.out), zh0 HK⟩

/-! ### spec_l01Pick: function 68 -/
def spec_l01Pick.f (s0_0 : List Int) (s0_1 : Int) (s0_2 : Int) (l1 : List Int) : Option (Int × Int × Int) := (spec_l01Next.f s0_0 s0_1 s0_2 (l1.length : Int)).bind fun bt226 => (if 0 ≤ bt226.1 then (if bt226.1 < (l1.length : Int) then (some (rd l1 bt226.1, bt226.2.1, bt226.2.2)) else (none)) else (none))
set_option maxHeartbeats 8000000 in
set_option maxRecDepth 100000 in
theorem spec_l01Pick.calls (g : Nat) (s0_0 : List Int) (s0_1 : Int) (s0_2 : Int) (A1 : Option Addr) (c1 : Nat) (l1 : List Int) (r1 : Int) (r2 : Int) (r3 : Int) (w0 w : World) (hI : IsS86 w0 w g s0_0 s0_1 s0_2) (hB : Below w0.heap.size w0 w) (hr1 : Kd.C (Kd.int .i64) w A1 l1.length l1) (hc1 : l1.length ≤ c1) (hf1 : ∀ ad, A1 = some ad → 0 < l1.length → ad.block ≠ g) (h : spec_l01Pick.f s0_0 s0_1 s0_2 l1 = some (r1, r2, r3)) :
  Calls Try.prog 68 #[.pointer (some ⟨g, 0, none⟩), .slice A1 l1.length c1] w fun e w' => e = .returned (.int .i64 r1) ∧ IsS86 w0 w' g s0_0 r2 r3 ∧ Below w0.heap.size w0 w' ∧ KeepBut w w' g none := by
 have HR1 := jA hr1
 have HC1 := jA hc1
 clear hr1 hc1
 have HI0 := jA hI
 have HK := jA (KeepBut.refl w g none)
 have HL := jA hB.size
 clear hI
 have HW0 := jA hB.size
 have HB := jA hB
 clear hB
 have H : ((spec_l01Next.f s0_0 s0_1 s0_2 (l1.length : Int)).bind fun bt226 => (if 0 ≤ bt226.1 then (if bt226.1 < (l1.length : Int) then (some (rd l1 bt226.1, bt226.2.1, bt226.2.2)) else (none)) else (none))) = some (r1, r2, r3) := h
 clear h
 replace H := jD.mp H
 obtain ⟨⟨t226, t227, t228⟩, A30, H⟩ := H
 replace H : (if 0 ≤ t226 then (if t226 < (l1.length : Int) then (some (rd l1 t226, t227, t228)) else (none)) else (none)) = some (r1, r2, r3) := H
 have A3 := jA A30
 clear A30
 by_cases c4 : 0 ≤ t226
 ·rw [if_pos c4] at H
  have c4b0 : decide (0 ≤ t226) = true := jG c4
  clear c4
  by_cases c5 : t226 < (l1.length : Int)
  ·rw [if_pos c5] at H
   have c5b0 : decide (t226 < (l1.length : Int)) = true := jG c5
   clear c5
   simp only [jU, jY] at H
   obtain ⟨rfl, rfl, rfl⟩ := H
   go_enter Try.func68, Try.ntmps68
   go_wp2_with (first | ((with_reducible refine jH (f := 69) rfl ?_); refine goesL_ (some 9) rfl rfl Try.func69 zr rfl #[.pointer (some ⟨g, 0, none⟩), .int .i64 (l1.length : Int)] rfl zm ?_; (with_reducible refine (spec_l01Next.calls g s0_0 s0_1 s0_2 (l1.length : Int) t226 t227 t228 w0 _ ?side1 ?side2 A3.out).mono ?_); (case side1 => repeat (first | (with_reducible first | exact HI0.out | apply IsS86.alloc | apply IsS86.drewN | apply IsS86.drew | apply IsS86.set_1 | apply IsS86.set_2) | exact HI0.out)); (case side2 => repeat (first | (with_reducible first | exact HB.out | apply jP | apply jK | apply jL | refine jQ ?_ (IsS86.ge HI0.out)) | exact HB.out)); rintro e w6 ⟨rfl, hi, hb, hk⟩; refine ⟨_, rfl, ?_⟩; have n0_ := jA (KeepBut.trans (zh0 HK) hk (.inl rfl)); have n1_ := jA (hb); have n2_ := jA (hi); clear HK; clear HB; clear HI0; have HK := n0_; have HB := n1_; have HI0 := n2_; clear n0_ n1_ n2_; (try clear hb); (try clear hb2); (try clear hk); (try clear hi); have p229 : 0 ≤ (t226 : Int) := jB za; have q229 : t226 < (l1.length : Int) := jB za; obtain ⟨ad229, e229, hx229_0⟩ := Kd.at_int HR1.out t226 p229 q229; cases e229; replace hx229_0 := keep_cell HK.out hx229_0 (by first | (rw [add_block]; exact hf1 _ rfl (by omega)) | exact hf1 _ rfl (by omega) | exact hf1 ad229 rfl (by omega)); replace p229 := eq_true p229; replace q229 := eq_true q229))
   go_ret
   exact ⟨by first | rfl | (simp [errW_none, errW_some] <;> rfl) | (simp [*, errW_none, errW_some] <;> rfl), by repeat (first | (with_reducible first | exact HI0.out | apply IsS86.alloc | apply IsS86.drewN | apply IsS86.drew | apply IsS86.set_1 | apply IsS86.set_2) | exact HI0.out), by repeat (first | (with_reducible first | exact HB.out | apply jP | apply jK | apply jL | refine jQ ?_ (IsS86.ge HI0.out)) | exact HB.out), zh0 HK⟩
  ·rw [if_neg c5] at H
   exact absurd H (by simp)
 ·rw [if_neg c4] at H
  exact absurd H (by simp)

/-! ### spec_l27Factor: function 67 -/
def spec_l27Factor.f (s0_0 : List Int) (s0_1 : Int) (s0_2 : Int) : Option (Int × Int × Int) := (spec_l01Next.f s0_0 s0_1 s0_2 40).bind fun bt230 => ((spec_l01Next.f s0_0 bt230.2.1 bt230.2.2 20).bind fun bt233 => ((spec_l01Next.f s0_0 bt233.2.1 bt233.2.2 501).bind fun bt236 => ((spec_l01Pick.f s0_0 bt236.2.1 bt236.2.2 (([wrap64 (1 + bt230.1), wrap64 (1 + bt233.1), 0, bt236.1, 500, 501] : List Int))).bind fun bt242 => (some (bt242.1, bt242.2.1, bt242.2.2)))))
set_option maxHeartbeats 8000000 in
set_option maxRecDepth 100000 in
theorem spec_l27Factor.calls (g : Nat) (s0_0 : List Int) (s0_1 : Int) (s0_2 : Int) (r1 : Int) (r2 : Int) (r3 : Int) (w0 w : World) (hI : IsS86 w0 w g s0_0 s0_1 s0_2) (hB : Below w0.heap.size w0 w) (h : spec_l27Factor.f s0_0 s0_1 s0_2 = some (r1, r2, r3)) :
  Calls Try.prog 67 #[.pointer (some ⟨g, 0, none⟩)] w fun e w' => e = .returned (.int .i64 r1) ∧ IsS86 w0 w' g s0_0 r2 r3 ∧ Below w0.heap.size w0 w' ∧ KeepBut w w' g none := by
 have HI0 := jA hI
 have HK := jA (KeepBut.refl w g none)
 have HL := jA hB.size
 clear hI
 have HW0 := jA hB.size
 have HB := jA hB
 clear hB
 have H : ((spec_l01Next.f s0_0 s0_1 s0_2 40).bind fun bt230 => ((spec_l01Next.f s0_0 bt230.2.1 bt230.2.2 20).bind fun bt233 => ((spec_l01Next.f s0_0 bt233.2.1 bt233.2.2 501).bind fun bt236 => ((spec_l01Pick.f s0_0 bt236.2.1 bt236.2.2 (([wrap64 (1 + bt230.1), wrap64 (1 + bt233.1), 0, bt236.1, 500, 501] : List Int))).bind fun bt242 => (some (bt242.1, bt242.2.1, bt242.2.2)))))) = some (r1, r2, r3) := h
 clear h
 replace H := jD.mp H
 obtain ⟨⟨t230, t231, t232⟩, A20, H⟩ := H
 replace H : ((spec_l01Next.f s0_0 t231 t232 20).bind fun bt233 => ((spec_l01Next.f s0_0 bt233.2.1 bt233.2.2 501).bind fun bt236 => ((spec_l01Pick.f s0_0 bt236.2.1 bt236.2.2 (([wrap64 (1 + t230), wrap64 (1 + bt233.1), 0, bt236.1, 500, 501] : List Int))).bind fun bt242 => (some (bt242.1, bt242.2.1, bt242.2.2))))) = some (r1, r2, r3) := H
 have A2 := jA A20
 clear A20
 replace H := jD.mp H
 obtain ⟨⟨t233, t234, t235⟩, A30, H⟩ := H
 replace H : ((spec_l01Next.f s0_0 t234 t235 501).bind fun bt236 => ((spec_l01Pick.f s0_0 bt236.2.1 bt236.2.2 (([wrap64 (1 + t230), wrap64 (1 + t233), 0, bt236.1, 500, 501] : List Int))).bind fun bt242 => (some (bt242.1, bt242.2.1, bt242.2.2)))) = some (r1, r2, r3) := H
 have A3 := jA A30
 clear A30
 replace H := jD.mp H
 obtain ⟨⟨t236, t237, t238⟩, A40, H⟩ := H
 replace H : ((spec_l01Pick.f s0_0 t237 t238 (([wrap64 (1 + t230), wrap64 (1 + t233), 0, t236, 500, 501] : List Int))).bind fun bt242 => (some (bt242.1, bt242.2.1, bt242.2.2))) = some (r1, r2, r3) := H
 have A4 := jA A40
 clear A40
 obtain ⟨y239, hy239⟩ : ∃ y_ : List Int, y_ = (([wrap64 (1 + t230), wrap64 (1 + t233), 0, t236, 500, 501] : List Int)) := ⟨_, rfl⟩
 replace H : ((spec_l01Pick.f s0_0 t237 t238 y239).bind fun bt242 => (some (bt242.1, bt242.2.1, bt242.2.2))) = some (r1, r2, r3) := by first | (rw [hy239]; with_reducible exact H) | (have H2_ := (Option.bind_some _ _).symm.trans H; rw [hy239]; with_reducible exact H2_) | (have H2_ := (Option.bind_some _ _).symm.trans H; with_reducible exact H2_) | with_reducible exact H | (rw [hy239]; exact H) | exact H
 have Ny239 := jA hy239
 clear hy239
 replace H := jD.mp H
 obtain ⟨⟨t242, t243, t244⟩, A50, H⟩ := H
 replace H : (some (t242, t243, t244)) = some (r1, r2, r3) := H
 have A5 := jA A50
 clear A50
 simp only [jU, jY] at H
 obtain ⟨rfl, rfl, rfl⟩ := H
 go_enter Try.func67, Try.ntmps67
 go_wp2_with (first | ((with_reducible refine jH (f := 69) rfl ?_); refine goesL_ (some 5) rfl rfl Try.func69 zr rfl #[.pointer (some ⟨g, 0, none⟩), .int .i64 40] rfl zm ?_; (with_reducible refine (spec_l01Next.calls g s0_0 s0_1 s0_2 40 t230 t231 t232 w0 _ ?side1 ?side2 A2.out).mono ?_); (case side1 => repeat (first | (with_reducible first | exact HI0.out | apply IsS86.alloc | apply IsS86.drewN | apply IsS86.drew | apply IsS86.set_1 | apply IsS86.set_2) | exact HI0.out)); (case side2 => repeat (first | (with_reducible first | exact HB.out | apply jP | apply jK | apply jL | refine jQ ?_ (IsS86.ge HI0.out)) | exact HB.out)); rintro e w6 ⟨rfl, hi, hb, hk⟩; refine ⟨_, rfl, ?_⟩; have n0_ := jA (KeepBut.trans (zh0 HK) hk (.inl rfl)); have n1_ := jA (hb); have n2_ := jA (hi); clear HK; clear HB; clear HI0; have HK := n0_; have HB := n1_; have HI0 := n2_; clear n0_ n1_ n2_; (try clear hb); (try clear hb2); (try clear hk); (try clear hi)) | ((with_reducible refine jH (f := 69) rfl ?_); refine goesL_ (some 8) rfl rfl Try.func69 zr rfl #[.pointer (some ⟨g, 0, none⟩), .int .i64 20] rfl zm ?_; (with_reducible refine (spec_l01Next.calls g s0_0 t231 t232 20 t233 t234 t235 w0 _ ?side1 ?side2 A3.out).mono ?_); (case side1 => repeat (first | (with_reducible first | exact HI0.out | apply IsS86.alloc | apply IsS86.drewN | apply IsS86.drew | apply IsS86.set_1 | apply IsS86.set_2) | exact HI0.out)); (case side2 => repeat (first | (with_reducible first | exact HB.out | apply jP | apply jK | apply jL | refine jQ ?_ (IsS86.ge HI0.out)) | exact HB.out)); rintro e w7 ⟨rfl, hi, hb, hk⟩; refine ⟨_, rfl, ?_⟩; have n0_ := jA (KeepBut.trans (zh0 HK) hk (.inl rfl)); have n1_ := jA (hb); have n2_ := jA (hi); clear HK; clear HB; clear HI0; have HK := n0_; have HB := n1_; have HI0 := n2_; clear n0_ n1_ n2_; (try clear hb); (try clear hb2); (try clear hk); (try clear hi)) | ((with_reducible refine jH (f := 69) rfl ?_); refine goesL_ (some 11) rfl rfl Try.func69 zr rfl #[.pointer (some ⟨g, 0, none⟩), .int .i64 501] rfl zm ?_; (with_reducible refine (spec_l01Next.calls g s0_0 t234 t235 501 t236 t237 t238 w0 _ ?side1 ?side2 A4.out).mono ?_); (case side1 => repeat (first | (with_reducible first | exact HI0.out | apply IsS86.alloc | apply IsS86.drewN | apply IsS86.drew | apply IsS86.set_1 | apply IsS86.set_2) | exact HI0.out)); (case side2 => repeat (first | (with_reducible first | exact HB.out | apply jP | apply jK | apply jL | refine jQ ?_ (IsS86.ge HI0.out)) | exact HB.out)); rintro e w8 ⟨rfl, hi, hb, hk⟩; refine ⟨_, rfl, ?_⟩; have n0_ := jA (KeepBut.trans (zh0 HK) hk (.inl rfl)); have n1_ := jA (hb); have n2_ := jA (hi); clear HK; clear HB; clear HI0; have HK := n0_; have HB := n1_; have HI0 := n2_; clear n0_ n1_ n2_; (try clear hb); (try clear hb2); (try clear hk); (try clear hi)) | ((with_reducible refine gate_dst (N := 12) rfl ?_); refine Kd.R_lit (Kd.int .i64) _ 2 ?hg (N := 12) ?hd (xs := ([wrap64 (1 + t230), wrap64 (1 + t233), 0, t236, 500, 501] : List Int)) (inner := [.int .i64 (wrap64 (1 + t230)), .int .i64 (wrap64 (1 + t233)), .int .i64 0, .int .i64 t236, .int .i64 500, .int .i64 501]) (ok := fun _ => True) (okp := fun _ => True) ?hr ?hp (fun _ hk => hk) trivial (Below.refl _ _) (Nat.le_refl _) (by simp) ?_; (case hd => rfl); (case hg => rfl); (case hr => first | (go_simp; done) | (go_simp; rfl)); (case hp => exact (Reps.one (show Kd.M (Kd.int .i64) _ _ _ (wrap64 (1 + t230)) [.int .i64 (wrap64 (1 + t230))] from rfl) (Reps.one (show Kd.M (Kd.int .i64) _ _ _ (wrap64 (1 + t233)) [.int .i64 (wrap64 (1 + t233))] from rfl) (Reps.one (show Kd.M (Kd.int .i64) _ _ _ 0 [.int .i64 0] from rfl) (Reps.one (show Kd.M (Kd.int .i64) _ _ _ t236 [.int .i64 t236] from rfl) (Reps.one (show Kd.M (Kd.int .i64) _ _ _ 500 [.int .i64 500] from rfl) (Reps.one (show Kd.M (Kd.int .i64) _ _ _ 501 [.int .i64 501] from rfl) (Reps.none _ _)))))))); intro v240 w9 ho10 hb hg_ hnew_; clear hg_ hnew_; (first | rw [← Ny239.out] at ho10 | (simp only [Int.reduceToNat] at ho10; rw [← Ny239.out] at ho10)); have n0_ := jA (Kd.R_lower ho10 (keep_size (w := w) (g := g) (row := none) (zh0 HK))); have n1_ := jA (IsS86.below (by repeat (first | (with_reducible first | exact HI0.out | apply IsS86.alloc | apply IsS86.drewN | apply IsS86.drew | apply IsS86.set_1 | apply IsS86.set_2) | exact HI0.out)) hb); have n2_ := jA (KeepBut.trans (zh0 HK) (KeepBut.of_below hb g none) (.inl rfl)); have n3_ := jA (jT (by repeat (first | (with_reducible first | exact HB.out | apply jP | apply jK | apply jL | refine jQ ?_ (IsS86.ge HI0.out)) | exact HB.out)) hb); clear HI0; clear HK; clear HB; have HO241 := n0_; have HI0 := n1_; have HK := n2_; have HB := n3_; clear n0_ n1_ n2_ n3_; clear hb ho10; obtain ⟨Ao11, co11, eo11⟩ := Kd.R_slice HO241.out; subst eo11) | ((with_reducible refine jH (f := 68) rfl ?_); refine goesL_ (some 13) rfl rfl Try.func68 zr rfl #[.pointer (some ⟨g, 0, none⟩), .slice Ao11 y239.length co11] rfl zm ?_; (with_reducible refine (spec_l01Pick.calls g s0_0 t237 t238 _ _ y239 t242 t243 t244 w0 _ ?side1 ?side2 ?side3 ?side4 ?side5 A5.out).mono ?_); (case side1 => repeat (first | (with_reducible first | exact HI0.out | apply IsS86.alloc | apply IsS86.drewN | apply IsS86.drew | apply IsS86.set_1 | apply IsS86.set_2) | exact HI0.out)); (case side2 => repeat (first | (with_reducible first | exact HB.out | apply jP | apply jK | apply jL | refine jQ ?_ (IsS86.ge HI0.out)) | exact HB.out)); (case side3 => repeat (first | exact (jF HO241.out).2.2 | (with_reducible refine jO ?_ _) | (with_reducible refine jN ?_ _) | (with_reducible refine jS ?_))); (case side4 => exact (jF HO241.out).2.1); (case side5 => exact far_slice (IsS86.own_ne HI0.out HO241.out (by decide))); rintro e w12 ⟨rfl, hi, hb, hk⟩; refine ⟨_, rfl, ?_⟩; have n0_ := jA (Kd.R_mono (Kd.R_keep (IsS86.apart (show IsS86 w0 _ g s0_0 t237 t238 from by repeat (first | (with_reducible first | exact HI0.out | apply IsS86.alloc | apply IsS86.drewN | apply IsS86.drew | apply IsS86.set_1 | apply IsS86.set_2) | exact HI0.out)) (zo HO241) (by decide)) hk (fun _ h => h.2)) (fun _ h => h.1)); have n1_ := jA (KeepBut.trans (zh0 HK) hk (.inl rfl)); have n2_ := jA (hb); have n3_ := jA (hi); clear HO241; clear HK; clear HB; clear HI0; have HO241 := n0_; have HK := n1_; have HB := n2_; have HI0 := n3_; clear n0_ n1_ n2_ n3_; (try clear hb); (try clear hb2); (try clear hk); (try clear hi)))
 go_ret
 exact ⟨by first | rfl | (simp [errW_none, errW_some] <;> rfl) | (simp [*, errW_none, errW_some] <;> rfl), by repeat (first | (with_reducible first | exact HI0.out | apply IsS86.alloc | apply IsS86.drewN | apply IsS86.drew | apply IsS86.set_1 | apply IsS86.set_2) | exact HI0.out), by repeat (first | (with_reducible first | exact HB.out | apply jP | apply jK | apply jL | refine jQ ?_ (IsS86.ge HI0.out)) | exact HB.out), zh0 HK⟩

/-! ### spec_l27Good: function 87 -/
def spec_l27Good.f (s0_0 : List Int) (s0_1 : Int) (s0_2 : Int) : Option (Int × Int × Int × Int × Int) := (spec_l01Next.f s0_0 s0_1 s0_2 3000).bind fun bt246 => ((spec_l01Next.f s0_0 bt246.2.1 bt246.2.2 3000).bind fun bt249 => ((spec_l01Next.f s0_0 bt249.2.1 bt249.2.2 100000).bind fun bt252 => ((spec_l01Next.f s0_0 bt252.2.1 bt252.2.2 2000).bind fun bt255 => ((spec_l01Next.f s0_0 bt255.2.1 bt255.2.2 1000000).bind fun bt258 => ((spec_l01Pick.f s0_0 bt258.2.1 bt258.2.2 (([bt252.1, bt255.1, 0, bt258.1] : List Int))).bind fun bt264 => (some (bt246.1, bt249.1, bt264.1, bt264.2.1, bt264.2.2)))))))
set_option maxHeartbeats 8000000 in
set_option maxRecDepth 100000 in
theorem spec_l27Good.calls (g : Nat) (s0_0 : List Int) (s0_1 : Int) (s0_2 : Int) (r1 : Int) (r2 : Int) (r3 : Int) (r4 : Int) (r5 : Int) (w0 w : World) (hI : IsS86 w0 w g s0_0 s0_1 s0_2) (hB : Below w0.heap.size w0 w) (h : spec_l27Good.f s0_0 s0_1 s0_2 = some (r1, r2, r3, r4, r5)) :
  Calls Try.prog 87 #[.pointer (some ⟨g, 0, none⟩)] w fun e w' => e = .returned (.agg #[.int .i64 r1, .int .i64 r2, .int .i64 r3]) ∧ IsS86 w0 w' g s0_0 r4 r5 ∧ Below w0.heap.size w0 w' ∧ KeepBut w w' g none := by
 have hu51 := Try.underlying51
 have HI0 := jA hI
 have HK := jA (KeepBut.refl w g none)
 have HL := jA hB.size
 clear hI
 have HW0 := jA hB.size
 have HB := jA hB
 clear hB
 have H : ((spec_l01Next.f s0_0 s0_1 s0_2 3000).bind fun bt246 => ((spec_l01Next.f s0_0 bt246.2.1 bt246.2.2 3000).bind fun bt249 => ((spec_l01Next.f s0_0 bt249.2.1 bt249.2.2 100000).bind fun bt252 => ((spec_l01Next.f s0_0 bt252.2.1 bt252.2.2 2000).bind fun bt255 => ((spec_l01Next.f s0_0 bt255.2.1 bt255.2.2 1000000).bind fun bt258 => ((spec_l01Pick.f s0_0 bt258.2.1 bt258.2.2 (([bt252.1, bt255.1, 0, bt258.1] : List Int))).bind fun bt264 => (some (bt246.1, bt249.1, bt264.1, bt264.2.1, bt264.2.2)))))))) = some (r1, r2, r3, r4, r5) := h
 clear h
 replace H := jD.mp H
 obtain ⟨⟨t246, t247, t248⟩, A20, H⟩ := H
 replace H : ((spec_l01Next.f s0_0 t247 t248 3000).bind fun bt249 => ((spec_l01Next.f s0_0 bt249.2.1 bt249.2.2 100000).bind fun bt252 => ((spec_l01Next.f s0_0 bt252.2.1 bt252.2.2 2000).bind fun bt255 => ((spec_l01Next.f s0_0 bt255.2.1 bt255.2.2 1000000).bind fun bt258 => ((spec_l01Pick.f s0_0 bt258.2.1 bt258.2.2 (([bt252.1, bt255.1, 0, bt258.1] : List Int))).bind fun bt264 => (some (t246, bt249.1, bt264.1, bt264.2.1, bt264.2.2))))))) = some (r1, r2, r3, r4, r5) := H
 have A2 := jA A20
 clear A20
 replace H := jD.mp H
 obtain ⟨⟨t249, t250, t251⟩, A30, H⟩ := H
 replace H : ((spec_l01Next.f s0_0 t250 t251 100000).bind fun bt252 => ((spec_l01Next.f s0_0 bt252.2.1 bt252.2.2 2000).bind fun bt255 => ((spec_l01Next.f s0_0 bt255.2.1 bt255.2.2 1000000).bind fun bt258 => ((spec_l01Pick.f s0_0 bt258.2.1 bt258.2.2 (([bt252.1, bt255.1, 0, bt258.1] : List Int))).bind fun bt264 => (some (t246, t249, bt264.1, bt264.2.1, bt264.2.2)))))) = some (r1, r2, r3, r4, r5) := H
 have A3 := jA A30
 clear A30
 replace H := jD.mp H
 obtain ⟨⟨t252, t253, t254⟩, A40, H⟩ := H
 replace H : ((spec_l01Next.f s0_0 t253 t254 2000).bind fun bt255 => ((spec_l01Next.f s0_0 bt255.2.1 bt255.2.2 1000000).bind fun bt258 => ((spec_l01Pick.f s0_0 bt258.2.1 bt258.2.2 (([t252, bt255.1, 0, bt258.1] : List Int))).bind fun bt264 => (some (t246, t249, bt264.1, bt264.2.1, bt264.2.2))))) = some (r1, r2, r3, r4, r5) := H
 have A4 := jA A40
 clear A40
 replace H := jD.mp H
 obtain ⟨⟨t255, t256, t257⟩, A50, H⟩ := H
 replace H : ((spec_l01Next.f s0_0 t256 t257 1000000).bind fun bt258 => ((spec_l01Pick.f s0_0 bt258.2.1 bt258.2.2 (([t252, t255, 0, bt258.1] : List Int))).bind fun bt264 => (some (t246, t249, bt264.1, bt264.2.1, bt264.2.2)))) = some (r1, r2, r3, r4, r5) := H
 have A5 := jA A50
 clear A50
 replace H := jD.mp H
 obtain ⟨⟨t258, t259, t260⟩, A60, H⟩ := H
 replace H : ((spec_l01Pick.f s0_0 t259 t260 (([t252, t255, 0, t258] : List Int))).bind fun bt264 => (some (t246, t249, bt264.1, bt264.2.1, bt264.2.2))) = some (r1, r2, r3, r4, r5) := H
 have A6 := jA A60
 clear A60
 obtain ⟨y261, hy261⟩ : ∃ y_ : List Int, y_ = (([t252, t255, 0, t258] : List Int)) := ⟨_, rfl⟩
 replace H : ((spec_l01Pick.f s0_0 t259 t260 y261).bind fun bt264 => (some (t246, t249, bt264.1, bt264.2.1, bt264.2.2))) = some (r1, r2, r3, r4, r5) := by first | (rw [hy261]; with_reducible exact H) | (have H2_ := (Option.bind_some _ _).symm.trans H; rw [hy261]; with_reducible exact H2_) | (have H2_ := (Option.bind_some _ _).symm.trans H; with_reducible exact H2_) | with_reducible exact H | (rw [hy261]; exact H) | exact H
 have Ny261 := jA hy261
 clear hy261
 replace H := jD.mp H
 obtain ⟨⟨t264, t265, t266⟩, A70, H⟩ := H
 replace H : (some (t246, t249, t264, t265, t266)) = some (r1, r2, r3, r4, r5) := H
 have A7 := jA A70
 clear A70
 simp only [jU, jY] at H
 obtain ⟨rfl, rfl, rfl, rfl, rfl⟩ := H
 go_enter Try.func87, Try.ntmps87
 go_wp2_with (first | ((with_reducible refine gate_dst (N := 2) rfl ?_); refine box_event ?hg (N := 2) ?hd (cs := #[.int .i64 0, .int .i64 0, .int .i64 0]) (t := 51) ?hr ?_; (case hd => rfl); (case hg => rfl); (case hr => first | (go_simp; done) | (go_simp; rfl)); intro gb245 hg w8 hbox hb; have n0_ := jA (IsS86.below (by repeat (first | (with_reducible first | exact HI0.out | apply IsS86.alloc | apply IsS86.drewN | apply IsS86.drew | apply IsS86.set_1 | apply IsS86.set_2) | exact HI0.out)) hb); have n1_ := jA (KeepBut.trans (zh0 HK) (KeepBut.of_below hb g none) (.inl rfl)); have n2_ := jA (jT (by repeat (first | (with_reducible first | exact HB.out | apply jP | apply jK | apply jL | refine jQ ?_ (IsS86.ge HI0.out)) | exact HB.out)) hb); have n3_ := jA (hbox); have n4_ := jA ((by rw [hg]; exact (keep_size (w := w) (g := g) (row := none) (zh0 HK)) : w.heap.size ≤ gb245)); have n5_ := jA ((Nat.le_trans HW0.out (by rw [hg]; exact (keep_size (w := w) (g := g) (row := none) (zh0 HK)) : w.heap.size ≤ gb245) : w0.heap.size ≤ gb245)); have n6_ := jA ((by rw [hg]; exact Nat.ne_of_lt (IsS86.lt (show IsS86 w0 _ g s0_0 s0_1 s0_2 from by repeat (first | (with_reducible first | exact HI0.out | apply IsS86.alloc | apply IsS86.drewN | apply IsS86.drew | apply IsS86.set_1 | apply IsS86.set_2) | exact HI0.out))) : g ≠ gb245)); have n7_ := jA ((by rw [hg]; exact Nat.ne_of_gt (IsS86.lt (show IsS86 w0 _ g s0_0 s0_1 s0_2 from by repeat (first | (with_reducible first | exact HI0.out | apply IsS86.alloc | apply IsS86.drewN | apply IsS86.drew | apply IsS86.set_1 | apply IsS86.set_2) | exact HI0.out))) : gb245 ≠ g)); clear HI0; clear HK; clear HB; have HI0 := n0_; have HK := n1_; have HB := n2_; have BK245 := n3_; have GW245 := n4_; have GE245 := n5_; have NB0_245 := n6_; have NB245_0 := n7_; clear n0_ n1_ n2_ n3_ n4_ n5_ n6_ n7_; clear hb hbox hg) | ((with_reducible refine jH (f := 69) rfl ?_); refine goesL_ (some 4) rfl rfl Try.func69 zr rfl #[.pointer (some ⟨g, 0, none⟩), .int .i64 3000] rfl zm ?_; (with_reducible refine (spec_l01Next.calls g s0_0 s0_1 s0_2 3000 t246 t247 t248 w0 _ ?side1 ?side2 A2.out).mono ?_); (case side1 => repeat (first | (with_reducible first | exact HI0.out | apply IsS86.alloc | apply IsS86.drewN | apply IsS86.drew | apply IsS86.set_1 | apply IsS86.set_2 | refine IsS86.far ?_ NB0_245.out _) | exact HI0.out)); (case side2 => repeat (first | (with_reducible first | exact HB.out | apply jP | apply jK | apply jL | refine jQ ?_ (IsS86.ge HI0.out) | refine jQ ?_ GE245.out) | exact HB.out)); rintro e w9 ⟨rfl, hi, hb, hk⟩; refine ⟨_, rfl, ?_⟩; have n0_ := jA (KeepBut.blk hk (g' := gb245) (o := .cells #[.int .i64 0, .int .i64 0, .int .i64 0] 51 (0, 0)) (zk BK245) NB245_0.out (by simp)); have n1_ := jA (KeepBut.trans (zh1 HK GW245) hk (.inl rfl)); have n2_ := jA (hb); have n3_ := jA (hi); clear BK245; clear HK; clear HB; clear HI0; have BK245 := n0_; have HK := n1_; have HB := n2_; have HI0 := n3_; clear n0_ n1_ n2_ n3_; (try clear hb); (try clear hb2); (try clear hk); (try clear hi)) | ((with_reducible refine jH (f := 69) rfl ?_); refine goesL_ (some 6) rfl rfl Try.func69 zr rfl #[.pointer (some ⟨g, 0, none⟩), .int .i64 3000] rfl zm ?_; (with_reducible refine (spec_l01Next.calls g s0_0 t247 t248 3000 t249 t250 t251 w0 _ ?side1 ?side2 A3.out).mono ?_); (case side1 => repeat (first | (with_reducible first | exact HI0.out | apply IsS86.alloc | apply IsS86.drewN | apply IsS86.drew | apply IsS86.set_1 | apply IsS86.set_2 | refine IsS86.far ?_ NB0_245.out _) | exact HI0.out)); (case side2 => repeat (first | (with_reducible first | exact HB.out | apply jP | apply jK | apply jL | refine jQ ?_ (IsS86.ge HI0.out) | refine jQ ?_ GE245.out) | exact HB.out)); rintro e w10 ⟨rfl, hi, hb, hk⟩; refine ⟨_, rfl, ?_⟩; have n0_ := jA (KeepBut.blk hk (g' := gb245) (o := .cells #[.int .i64 0, .int .i64 0, .int .i64 0] 51 (0, 0)) (zk BK245) NB245_0.out (by simp)); have n1_ := jA (KeepBut.trans (zh1 HK GW245) hk (.inl rfl)); have n2_ := jA (hb); have n3_ := jA (hi); clear BK245; clear HK; clear HB; clear HI0; have BK245 := n0_; have HK := n1_; have HB := n2_; have HI0 := n3_; clear n0_ n1_ n2_ n3_; (try clear hb); (try clear hb2); (try clear hk); (try clear hi)) | ((with_reducible refine jH (f := 69) rfl ?_); refine goesL_ (some 9) rfl rfl Try.func69 zr rfl #[.pointer (some ⟨g, 0, none⟩), .int .i64 100000] rfl zm ?_; (with_reducible refine (spec_l01Next.calls g s0_0 t250 t251 100000 t252 t253 t254 w0 _ ?side1 ?side2 A4.out).mono ?_); (case side1 => repeat (first | (with_reducible first | exact HI0.out | apply IsS86.alloc | apply IsS86.drewN | apply IsS86.drew | apply IsS86.set_1 | apply IsS86.set_2 | refine IsS86.far ?_ NB0_245.out _) | exact HI0.out)); (case side2 => repeat (first | (with_reducible first | exact HB.out | apply jP | apply jK | apply jL | refine jQ ?_ (IsS86.ge HI0.out) | refine jQ ?_ GE245.out) | exact HB.out)); rintro e w11 ⟨rfl, hi, hb, hk⟩; refine ⟨_, rfl, ?_⟩; have n0_ := jA (KeepBut.blk hk (g' := gb245) (o := .cells #[.int .i64 0, .int .i64 0, .int .i64 0] 51 (0, 0)) (zk BK245) NB245_0.out (by simp)); have n1_ := jA (KeepBut.trans (zh1 HK GW245) hk (.inl rfl)); have n2_ := jA (hb); have n3_ := jA (hi); clear BK245; clear HK; clear HB; clear HI0; have BK245 := n0_; have HK := n1_; have HB := n2_; have HI0 := n3_; clear n0_ n1_ n2_ n3_; (try clear hb); (try clear hb2); (try clear hk); (try clear hi)) | ((with_reducible refine jH (f := 69) rfl ?_); refine goesL_ (some 11) rfl rfl Try.func69 zr rfl #[.pointer (some ⟨g, 0, none⟩), .int .i64 2000] rfl zm ?_; (with_reducible refine (spec_l01Next.calls g s0_0 t253 t254 2000 t255 t256 t257 w0 _ ?side1 ?side2 A5.out).mono ?_); (case side1 => repeat (first | (with_reducible first | exact HI0.out | apply IsS86.alloc | apply IsS86.drewN | apply IsS86.drew | apply IsS86.set_1 | apply IsS86.set_2 | refine IsS86.far ?_ NB0_245.out _) | exact HI0.out)); (case side2 => repeat (first | (with_reducible first | exact HB.out | apply jP | apply jK | apply jL | refine jQ ?_ (IsS86.ge HI0.out) | refine jQ ?_ GE245.out) | exact HB.out)); rintro e w12 ⟨rfl, hi, hb, hk⟩; refine ⟨_, rfl, ?_⟩; have n0_ := jA (KeepBut.blk hk (g' := gb245) (o := .cells #[.int .i64 0, .int .i64 0, .int .i64 0] 51 (0, 0)) (zk BK245) NB245_0.out (by simp)); have n1_ := jA (KeepBut.trans (zh1 HK GW245) hk (.inl rfl)); have n2_ := jA (hb); have n3_ := jA (hi); clear BK245; clear HK; clear HB; clear HI0; have BK245 := n0_; have HK := n1_; have HB := n2_; have HI0 := n3_; clear n0_ n1_ n2_ n3_; (try clear hb); (try clear hb2); (try clear hk); (try clear hi)) | ((with_reducible refine jH (f := 69) rfl ?_); refine goesL_ (some 13) rfl rfl Try.func69 zr rfl #[.pointer (some ⟨g, 0, none⟩), .int .i64 1000000] rfl zm ?_; (with_reducible refine (spec_l01Next.calls g s0_0 t256 t257 1000000 t258 t259 t260 w0 _ ?side1 ?side2 A6.out).mono ?_); (case side1 => repeat (first | (with_reducible first | exact HI0.out | apply IsS86.alloc | apply IsS86.drewN | apply IsS86.drew | apply IsS86.set_1 | apply IsS86.set_2 | refine IsS86.far ?_ NB0_245.out _) | exact HI0.out)); (case side2 => repeat (first | (with_reducible first | exact HB.out | apply jP | apply jK | apply jL | refine jQ ?_ (IsS86.ge HI0.out) | refine jQ ?_ GE245.out) | exact HB.out)); rintro e w13 ⟨rfl, hi, hb, hk⟩; refine ⟨_, rfl, ?_⟩; have n0_ := jA (KeepBut.blk hk (g' := gb245) (o := .cells #[.int .i64 0, .int .i64 0, .int .i64 0] 51 (0, 0)) (zk BK245) NB245_0.out (by simp)); have n1_ := jA (KeepBut.trans (zh1 HK GW245) hk (.inl rfl)); have n2_ := jA (hb); have n3_ := jA (hi); clear BK245; clear HK; clear HB; clear HI0; have BK245 := n0_; have HK := n1_; have HB := n2_; have HI0 := n3_; clear n0_ n1_ n2_ n3_; (try clear hb); (try clear hb2); (try clear hk); (try clear hi)) | ((with_reducible refine gate_dst (N := 14) rfl ?_); refine Kd.R_lit (Kd.int .i64) _ 2 ?hg (N := 14) ?hd (xs := ([t252, t255, 0, t258] : List Int)) (inner := [.int .i64 t252, .int .i64 t255, .int .i64 0, .int .i64 t258]) (ok := fun _ => True) (okp := fun _ => True) ?hr ?hp (fun _ hk => hk) trivial (Below.refl _ _) (Nat.le_refl _) (by simp) ?_; (case hd => rfl); (case hg => rfl); (case hr => first | (go_simp; done) | (go_simp; rfl)); (case hp => exact (Reps.one (show Kd.M (Kd.int .i64) _ _ _ t252 [.int .i64 t252] from rfl) (Reps.one (show Kd.M (Kd.int .i64) _ _ _ t255 [.int .i64 t255] from rfl) (Reps.one (show Kd.M (Kd.int .i64) _ _ _ 0 [.int .i64 0] from rfl) (Reps.one (show Kd.M (Kd.int .i64) _ _ _ t258 [.int .i64 t258] from rfl) (Reps.none _ _)))))); intro v262 w14 ho15 hb hg_ hnew_; clear hg_ hnew_; (first | rw [← Ny261.out] at ho15 | (simp only [Int.reduceToNat] at ho15; rw [← Ny261.out] at ho15)); have n0_ := jA (Kd.R_lower ho15 (keep_size (w := w) (g := g) (row := none) (zh1 HK GW245))); have n1_ := jA (IsS86.below (by repeat (first | (with_reducible first | exact HI0.out | apply IsS86.alloc | apply IsS86.drewN | apply IsS86.drew | apply IsS86.set_1 | apply IsS86.set_2 | refine IsS86.far ?_ NB0_245.out _) | exact HI0.out)) hb); have n2_ := jA (blk_below (g := gb245) (o := .cells #[.int .i64 0, .int .i64 0, .int .i64 0] 51 (0, 0)) (zk BK245) hb); have n3_ := jA (KeepBut.trans (zh1 HK GW245) (KeepBut.of_below hb g none) (.inl rfl)); have n4_ := jA (jT (by repeat (first | (with_reducible first | exact HB.out | apply jP | apply jK | apply jL | refine jQ ?_ (IsS86.ge HI0.out) | refine jQ ?_ GE245.out) | exact HB.out)) hb); clear HI0; clear BK245; clear HK; clear HB; have HO263 := n0_; have HI0 := n1_; have BK245 := n2_; have HK := n3_; have HB := n4_; clear n0_ n1_ n2_ n3_ n4_; clear hb ho15; obtain ⟨Ao16, co16, eo16⟩ := Kd.R_slice HO263.out; subst eo16) | ((with_reducible refine jH (f := 68) rfl ?_); refine goesL_ (some 15) rfl rfl Try.func68 zr rfl #[.pointer (some ⟨g, 0, none⟩), .slice Ao16 y261.length co16] rfl zm ?_; (with_reducible refine (spec_l01Pick.calls g s0_0 t259 t260 _ _ y261 t264 t265 t266 w0 _ ?side1 ?side2 ?side3 ?side4 ?side5 A7.out).mono ?_); (case side1 => repeat (first | (with_reducible first | exact HI0.out | apply IsS86.alloc | apply IsS86.drewN | apply IsS86.drew | apply IsS86.set_1 | apply IsS86.set_2 | refine IsS86.far ?_ NB0_245.out _) | exact HI0.out)); (case side2 => repeat (first | (with_reducible first | exact HB.out | apply jP | apply jK | apply jL | refine jQ ?_ (IsS86.ge HI0.out) | refine jQ ?_ GE245.out) | exact HB.out)); (case side3 => repeat (first | exact (jF HO263.out).2.2 | (with_reducible refine jO ?_ _) | (with_reducible refine jN ?_ _) | (with_reducible refine jS ?_))); (case side4 => exact (jF HO263.out).2.1); (case side5 => exact far_slice (IsS86.own_ne HI0.out HO263.out (by decide))); rintro e w17 ⟨rfl, hi, hb, hk⟩; refine ⟨_, rfl, ?_⟩; have n0_ := jA (KeepBut.blk hk (g' := gb245) (o := .cells #[.int .i64 0, .int .i64 0, .int .i64 0] 51 (0, 0)) (zk BK245) NB245_0.out (by simp)); have n1_ := jA (Kd.R_mono (Kd.R_keep (IsS86.apart (show IsS86 w0 _ g s0_0 t259 t260 from by repeat (first | (with_reducible first | exact HI0.out | apply IsS86.alloc | apply IsS86.drewN | apply IsS86.drew | apply IsS86.set_1 | apply IsS86.set_2 | refine IsS86.far ?_ NB0_245.out _) | exact HI0.out)) (zo HO263) (by decide)) hk (fun _ h => h.2)) (fun _ h => h.1)); have n2_ := jA (KeepBut.trans (zh1 HK GW245) hk (.inl rfl)); have n3_ := jA (hb); have n4_ := jA (hi); clear BK245; clear HO263; clear HK; clear HB; clear HI0; have BK245 := n0_; have HO263 := n1_; have HK := n2_; have HB := n3_; have HI0 := n4_; clear n0_ n1_ n2_ n3_ n4_; (try clear hb); (try clear hb2); (try clear hk); (try clear hi); have hnb18 := NB245_0.out; have hnc18 := NB0_245.out; have hcz19_0 : w17.cell? ⟨gb245, 0, none⟩ = some (.int .i64 0) := (jR BK245.out 0).trans rfl; have hcz19_1 : w17.cell? ⟨gb245, 1, none⟩ = some (.int .i64 0) := (jR BK245.out 1).trans rfl; have hcz19_2 : w17.cell? ⟨gb245, 2, none⟩ = some (.int .i64 0) := (jR BK245.out 2).trans rfl; have hfz19_0 := jV BK245.out 0; have hfz19_1 := jV BK245.out 1; have hfz19_2 := jV BK245.out 2))
 refine bodyPost_ret (results_cell_row rfl _ _ gb245 51 #[.int .i64 t246, .int .i64 t249, .int .i64 t264] (0, 0) _ rfl (by (with_reducible repeat (first | refine jc ?_ _ | refine blk_drew ?_ | refine jd ?_ _)); refine blk_put (cs := #[.int .i64 t246, .int .i64 t249, .int .i64 0]) ?_ 2 _ rfl; (with_reducible repeat (first | refine jc ?_ _ | refine blk_drew ?_ | refine jd ?_ _)); refine blk_put (cs := #[.int .i64 t246, .int .i64 0, .int .i64 0]) ?_ 1 _ rfl; (with_reducible repeat (first | refine jc ?_ _ | refine blk_drew ?_ | refine jd ?_ _)); refine blk_put (cs := #[.int .i64 0, .int .i64 0, .int .i64 0]) ?_ 0 _ rfl; (with_reducible repeat (first | refine jc ?_ _ | refine blk_drew ?_ | refine jd ?_ _)); exact BK245.out) Try.underlying51 rfl zr) rfl ?_
 exact ⟨by first | rfl | (simp [errW_none, errW_some] <;> rfl) | (simp [*, errW_none, errW_some] <;> rfl), by repeat (first | (with_reducible first | exact HI0.out | apply IsS86.alloc | apply IsS86.drewN | apply IsS86.drew | apply IsS86.set_1 | apply IsS86.set_2 | refine IsS86.far ?_ NB0_245.out _) | exact HI0.out), by repeat (first | (with_reducible first | exact HB.out | apply jP | apply jK | apply jL | refine jQ ?_ (IsS86.ge HI0.out) | refine jQ ?_ GE245.out) | exact HB.out), zh1 HK GW245⟩

end Go.Proofs.Ytmhnkhealidjjaa.PFnDepots
