/- Functions and contracts that FnStops reaches (2 of 14). -/
import Derived.Test.YtddejaomlnldiaaQFnStopsx0
namespace Go.Proofs.Ytddejaomlnldiaa.PFnStops
open Go.RowKit Go.Proofs.YtddejaomlnldiaaW.PrintWords Go.Proofs.YtddejaomlnldiaaW.PrintLast Go.Proofs.YtddejaomlnldiaaW.PrintMore
attribute [local go_sem] max2_int min2_int max_two min_two max_three min_three max_four min_four   -- for this text's walks alone
set_option linter.unusedVariables false
set_option linter.unusedSimpArgs false

/-! ### spec_AreModules: function 59 -/
def spec_AreModules.l0 : Nat → List (S63) → Int → Option (Bool)
 | 0, _, _ => none
 | k + 1, x0, x3 => if x3 < (x0.length : Int) then (if 0 ≤ x3 then ((spec_l01In.f ((rd_T63 x0 x3).f1) 0 32).bind fun t125 => (if t125 = true then (if x3 = 0 then (if ((rd_T63 x0 x3).f0) = (-1) then (if x3 > 0 then ((spec_l01In.f ((rd_T63 x0 x3).f0) 0 (wrap64 (x3 - 1))).bind fun t128 => (if t128 = true then (spec_AreModules.l0 k x0 (wrap64 (x3 + 1))) else (some false))) else (spec_AreModules.l0 k x0 (wrap64 (x3 + 1)))) else (some false)) else (if x3 > 0 then ((spec_l01In.f ((rd_T63 x0 x3).f0) 0 (wrap64 (x3 - 1))).bind fun t130 => (if t130 = true then (spec_AreModules.l0 k x0 (wrap64 (x3 + 1))) else (some false))) else (spec_AreModules.l0 k x0 (wrap64 (x3 + 1))))) else (some false))) else (none)) else ((spec_l01In.f (x0.length : Int) 1 12).bind fun t123 => (some t123))
def spec_AreModules.f (k : Nat) (l0 : List (S63)) : Option (Bool) := spec_AreModules.l0 k l0 0
theorem spec_AreModules.mono_l : ∀ k, (∀ y0 y1, LeO (spec_AreModules.l0 k y0 y1) (spec_AreModules.l0 (k + 1) y0 y1))
 | 0 => fun _ _ r h => by simp [spec_AreModules.l0] at h
 | k + 1 => by
  have ih0 := spec_AreModules.mono_l k
  ·intro y0 y1
   unfold spec_AreModules.l0
   repeat' first
   | (with_reducible exact ih0 _ _)
   | (with_reducible exact LeO.refl _)
   | (with_reducible exact LeO.none _)
   | (with_reducible refine LeO.ite ?_ ?_)
   | (with_reducible refine LeO.bind ?_ (fun _ => ?_))
   | exact ih0 _ _
   | exact LeO.none _
   | refine LeO.ite ?_ ?_
   | refine LeO.bind ?_ (fun _ => ?_)
theorem spec_AreModules.mono : ∀ a0 k, LeO (spec_AreModules.f k a0) (spec_AreModules.f (k + 1) a0) := by
 intro a0 k
 have ih0 := spec_AreModules.mono_l k
 unfold spec_AreModules.f
 repeat' first
   | (with_reducible exact ih0 _ _)
   | (with_reducible exact LeO.refl _)
   | (with_reducible exact LeO.none _)
   | (with_reducible refine LeO.ite ?_ ?_)
   | (with_reducible refine LeO.bind ?_ (fun _ => ?_))
   | exact ih0 _ _
   | exact LeO.none _
   | refine LeO.ite ?_ ?_
   | refine LeO.bind ?_ (fun _ => ?_)
set_option maxHeartbeats 8000000 in
set_option maxRecDepth 100000 in
theorem spec_AreModules.calls (k : Nat) (A0 : Option Addr) (c0 : Nat) (l0 : List (S63)) (r : Bool) (w : World) (hr0 : Kd.C k63 w A0 l0.length l0) (hc0 : l0.length ≤ c0) (h : spec_AreModules.f k l0 = some r) :
  Calls Try.prog 59 #[.slice A0 l0.length c0] w fun e w' => e = .returned (.bool r) ∧ Drawn0 w w' := by
 have HR0 := jA hr0
 have HC0 := jA hc0
 clear hr0 hc0
 have H : (spec_AreModules.l0 k l0 0) = some r := h
 clear h
 have H' := jA H
 clear H
 go_enter Try.func59, Try.ntmps59
 go_wp2
 go_loopg [3] k (fun kq v3 w' => ∃ (x3_1 : Int), v3 = .int .i64 x3_1 ∧ Aside0 (spec_AreModules.l0 kq l0 x3_1 = some r) ∧ Aside0 (kq ≤ k) ∧ Drawn0 w w')
 case atStart => exact ⟨(0), zz, H', ⟨Nat.le_refl _⟩, by repeat (first | exact Drawn0.refl _ | apply Drawn0.step)⟩
 case round =>
  clear H'
  obtain ⟨x3_1, rfl, HA, HK1, ⟨m1, rfl⟩⟩ := hrel
  cases gk with
  | zero => exact absurd HA.out (by simp [spec_AreModules.l0])
  | succ k1 =>
   have H := HA.out
   clear HA
   simp only [spec_AreModules.l0] at H
   by_cases c2 : x3_1 < (l0.length : Int)
   ·rw [if_pos c2] at H
    have c2b0 : decide (x3_1 < (l0.length : Int)) = true := jP c2
    clear c2
    by_cases c3 : 0 ≤ x3_1
    ·rw [if_pos c3] at H
     have c3b0 : decide (0 ≤ x3_1) = true := jP c3
     clear c3
     replace H := jD.mp H
     obtain ⟨t125, A40, H⟩ := H
     replace H : (if t125 = true then (if x3_1 = 0 then (if ((rd_T63 l0 x3_1).f0) = (-1) then (if x3_1 > 0 then ((spec_l01In.f ((rd_T63 l0 x3_1).f0) 0 (wrap64 (x3_1 - 1))).bind fun t128 => (if t128 = true then (spec_AreModules.l0 k1 l0 (wrap64 (x3_1 + 1))) else (some false))) else (spec_AreModules.l0 k1 l0 (wrap64 (x3_1 + 1)))) else (some false)) else (if x3_1 > 0 then ((spec_l01In.f ((rd_T63 l0 x3_1).f0) 0 (wrap64 (x3_1 - 1))).bind fun t130 => (if t130 = true then (spec_AreModules.l0 k1 l0 (wrap64 (x3_1 + 1))) else (some false))) else (spec_AreModules.l0 k1 l0 (wrap64 (x3_1 + 1))))) else (some false)) = some r := H
     have A4 := jA A40
     clear A40
     by_cases c5 : t125 = true
     ·subst c5
      have H1 : (if x3_1 = 0 then (if ((rd_T63 l0 x3_1).f0) = (-1) then (if x3_1 > 0 then ((spec_l01In.f ((rd_T63 l0 x3_1).f0) 0 (wrap64 (x3_1 - 1))).bind fun t128 => (if t128 = true then (spec_AreModules.l0 k1 l0 (wrap64 (x3_1 + 1))) else (some false))) else (spec_AreModules.l0 k1 l0 (wrap64 (x3_1 + 1)))) else (some false)) else (if x3_1 > 0 then ((spec_l01In.f ((rd_T63 l0 x3_1).f0) 0 (wrap64 (x3_1 - 1))).bind fun t130 => (if t130 = true then (spec_AreModules.l0 k1 l0 (wrap64 (x3_1 + 1))) else (some false))) else (spec_AreModules.l0 k1 l0 (wrap64 (x3_1 + 1))))) = some r := by rw [if_pos rfl] at H; exact H
      clear H
      have H := H1
      clear H1
      by_cases c6 : x3_1 = 0
      ·rw [if_pos c6] at H
       have c6b0 : (x3_1 == 0) = true := beq_iff_eq.mpr c6
       have c6b1 : (x3_1 != 0) = false := bne_eq_false_iff_eq.mpr c6
       clear c6
       by_cases c7 : ((rd_T63 l0 x3_1).f0) = (-1)
       ·rw [if_pos c7] at H
        have c7b0 : (((rd_T63 l0 x3_1).f0) == (-1)) = true := beq_iff_eq.mpr c7
        have c7b1 : (((rd_T63 l0 x3_1).f0) != (-1)) = false := bne_eq_false_iff_eq.mpr c7
        clear c7
        by_cases c8 : x3_1 > 0
        ·rw [if_pos c8] at H
         have c8b0 : decide (0 < x3_1) = true := jP c8
         clear c8
         replace H := jD.mp H
         obtain ⟨t128, A90, H⟩ := H
         replace H : (if t128 = true then (spec_AreModules.l0 k1 l0 (wrap64 (x3_1 + 1))) else (some false)) = some r := H
         have A9 := jA A90
         clear A90
         by_cases c10 : t128 = true
         ·subst c10
          have H1 : (spec_AreModules.l0 k1 l0 (wrap64 (x3_1 + 1))) = some r := by rw [if_pos rfl] at H; exact H
          clear H
          have H := H1
          clear H1
          have H' := jA H
          clear H
          have p124 : 0 ≤ (x3_1 : Int) := jB za
          have q124 : x3_1 < (l0.length : Int) := jB za
          obtain ⟨ad124, e124, hx124_0, hx124_1⟩ := at_T63 HR0.out x3_1 p124 q124
          cases e124
          replace p124 := eq_true p124
          replace q124 := eq_true q124
          go_wp2_with (first | ((with_reducible refine jN (f := 60) rfl ?_); refine goesL_ (some 15) rfl rfl Try.func60 zr rfl #[.int .i64 ((rd_T63 l0 x3_1).f1), .int .i64 0, .int .i64 32] rfl zm ?_; (with_reducible refine (spec_l01In.calls ((rd_T63 l0 x3_1).f1) 0 32 true _ A4.out).mono ?_); rintro e w' ⟨rfl, ⟨nd, rfl⟩⟩; refine ⟨_, rfl, ?_⟩; have p126 : 0 ≤ (x3_1 : Int) := jB za; have q126 : x3_1 < (l0.length : Int) := jB za; obtain ⟨ad126, e126, hx126_0, hx126_1⟩ := at_T63 HR0.out x3_1 p126 q126; obtain rfl : ad124 = ad126 := (by injection e126); replace p126 := eq_true p126; replace q126 := eq_true q126; have p127 : 0 ≤ (x3_1 : Int) := jB za; have q127 : x3_1 < (l0.length : Int) := jB za; obtain ⟨ad127, e127, hx127_0, hx127_1⟩ := at_T63 HR0.out x3_1 p127 q127; obtain rfl : ad124 = ad127 := (by injection e127); replace p127 := eq_true p127; replace q127 := eq_true q127) | (go_at_call 60; (with_reducible refine (spec_l01In.calls ((rd_T63 l0 x3_1).f0) 0 (wrap64 (x3_1 - 1)) true _ A9.out).mono ?_); rintro e w' ⟨rfl, ⟨nd, rfl⟩⟩))
          go_roundg k1
          case measure => have := HK1.out; omega
          case rel => exact ⟨(wrap64 (x3_1 + 1)), zz, H', ⟨by have := HK1.out; omega⟩, by repeat (first | exact Drawn0.refl _ | apply Drawn0.step)⟩
         ·replace c10 := Bool.eq_false_iff.mpr c10
          subst c10
          have H1 : (some false) = some r := by rw [if_neg (show ¬ (false = true) by decide)] at H; exact H
          clear H
          have H := H1
          clear H1
          obtain rfl := jW H
          have p124 : 0 ≤ (x3_1 : Int) := jB za
          have q124 : x3_1 < (l0.length : Int) := jB za
          obtain ⟨ad124, e124, hx124_0, hx124_1⟩ := at_T63 HR0.out x3_1 p124 q124
          cases e124
          replace p124 := eq_true p124
          replace q124 := eq_true q124
          go_wp2_with (first | ((with_reducible refine jN (f := 60) rfl ?_); refine goesL_ (some 15) rfl rfl Try.func60 zr rfl #[.int .i64 ((rd_T63 l0 x3_1).f1), .int .i64 0, .int .i64 32] rfl zm ?_; (with_reducible refine (spec_l01In.calls ((rd_T63 l0 x3_1).f1) 0 32 true _ A4.out).mono ?_); rintro e w' ⟨rfl, ⟨nd, rfl⟩⟩; refine ⟨_, rfl, ?_⟩; have p126 : 0 ≤ (x3_1 : Int) := jB za; have q126 : x3_1 < (l0.length : Int) := jB za; obtain ⟨ad126, e126, hx126_0, hx126_1⟩ := at_T63 HR0.out x3_1 p126 q126; obtain rfl : ad124 = ad126 := (by injection e126); replace p126 := eq_true p126; replace q126 := eq_true q126; have p127 : 0 ≤ (x3_1 : Int) := jB za; have q127 : x3_1 < (l0.length : Int) := jB za; obtain ⟨ad127, e127, hx127_0, hx127_1⟩ := at_T63 HR0.out x3_1 p127 q127; obtain rfl : ad124 = ad127 := (by injection e127); replace p127 := eq_true p127; replace q127 := eq_true q127) | (go_at_call 60; (with_reducible refine (spec_l01In.calls ((rd_T63 l0 x3_1).f0) 0 (wrap64 (x3_1 - 1)) false _ A9.out).mono ?_); rintro e w' ⟨rfl, ⟨nd, rfl⟩⟩))
          go_ret
          exact ⟨by first | rfl | (simp; done) | (simp [*]; done), by repeat (first | exact Drawn0.refl _ | apply Drawn0.step)⟩
        ·rw [if_neg c8] at H
         have c8b0 : decide (0 < x3_1) = false := ja c8
         clear c8
         have H' := jA H
         clear H
         have p124 : 0 ≤ (x3_1 : Int) := jB za
         have q124 : x3_1 < (l0.length : Int) := jB za
         obtain ⟨ad124, e124, hx124_0, hx124_1⟩ := at_T63 HR0.out x3_1 p124 q124
         cases e124
         replace p124 := eq_true p124
         replace q124 := eq_true q124
         go_wp2_with (first | ((with_reducible refine jN (f := 60) rfl ?_); refine goesL_ (some 15) rfl rfl Try.func60 zr rfl #[.int .i64 ((rd_T63 l0 x3_1).f1), .int .i64 0, .int .i64 32] rfl zm ?_; (with_reducible refine (spec_l01In.calls ((rd_T63 l0 x3_1).f1) 0 32 true _ A4.out).mono ?_); rintro e w' ⟨rfl, ⟨nd, rfl⟩⟩; refine ⟨_, rfl, ?_⟩; have p126 : 0 ≤ (x3_1 : Int) := jB za; have q126 : x3_1 < (l0.length : Int) := jB za; obtain ⟨ad126, e126, hx126_0, hx126_1⟩ := at_T63 HR0.out x3_1 p126 q126; obtain rfl : ad124 = ad126 := (by injection e126); replace p126 := eq_true p126; replace q126 := eq_true q126))
         go_roundg k1
         case measure => have := HK1.out; omega
         case rel => exact ⟨(wrap64 (x3_1 + 1)), zz, H', ⟨by have := HK1.out; omega⟩, by repeat (first | exact Drawn0.refl _ | apply Drawn0.step)⟩
       ·rw [if_neg c7] at H
        have c7b0 : (((rd_T63 l0 x3_1).f0) == (-1)) = false := beq_eq_false_iff_ne.mpr c7
        have c7b1 : (((rd_T63 l0 x3_1).f0) != (-1)) = true := bne_iff_ne.mpr c7
        obtain rfl := jW H
        have p124 : 0 ≤ (x3_1 : Int) := jB za
        have q124 : x3_1 < (l0.length : Int) := jB za
        obtain ⟨ad124, e124, hx124_0, hx124_1⟩ := at_T63 HR0.out x3_1 p124 q124
        cases e124
        replace p124 := eq_true p124
        replace q124 := eq_true q124
        go_wp2_with (first | ((with_reducible refine jN (f := 60) rfl ?_); refine goesL_ (some 15) rfl rfl Try.func60 zr rfl #[.int .i64 ((rd_T63 l0 x3_1).f1), .int .i64 0, .int .i64 32] rfl zm ?_; (with_reducible refine (spec_l01In.calls ((rd_T63 l0 x3_1).f1) 0 32 true _ A4.out).mono ?_); rintro e w' ⟨rfl, ⟨nd, rfl⟩⟩; refine ⟨_, rfl, ?_⟩; have p126 : 0 ≤ (x3_1 : Int) := jB za; have q126 : x3_1 < (l0.length : Int) := jB za; obtain ⟨ad126, e126, hx126_0, hx126_1⟩ := at_T63 HR0.out x3_1 p126 q126; obtain rfl : ad124 = ad126 := (by injection e126); replace p126 := eq_true p126; replace q126 := eq_true q126))
        go_ret
        exact ⟨by first | rfl | (simp; done) | (simp [*]; done), by repeat (first | exact Drawn0.refl _ | apply Drawn0.step)⟩
      ·rw [if_neg c6] at H
       have c6b0 : (x3_1 == 0) = false := beq_eq_false_iff_ne.mpr c6
       have c6b1 : (x3_1 != 0) = true := bne_iff_ne.mpr c6
       by_cases c11 : x3_1 > 0
       ·rw [if_pos c11] at H
        have c11b0 : decide (0 < x3_1) = true := jP c11
        clear c11
        replace H := jD.mp H
        obtain ⟨t130, A120, H⟩ := H
        replace H : (if t130 = true then (spec_AreModules.l0 k1 l0 (wrap64 (x3_1 + 1))) else (some false)) = some r := H
        have A12 := jA A120
        clear A120
        by_cases c13 : t130 = true
        ·subst c13
         have H1 : (spec_AreModules.l0 k1 l0 (wrap64 (x3_1 + 1))) = some r := by rw [if_pos rfl] at H; exact H
         clear H
         have H := H1
         clear H1
         have H' := jA H
         clear H
         have p124 : 0 ≤ (x3_1 : Int) := jB za
         have q124 : x3_1 < (l0.length : Int) := jB za
         obtain ⟨ad124, e124, hx124_0, hx124_1⟩ := at_T63 HR0.out x3_1 p124 q124
         cases e124
         replace p124 := eq_true p124
         replace q124 := eq_true q124
         go_wp2_with (first | ((with_reducible refine jN (f := 60) rfl ?_); refine goesL_ (some 15) rfl rfl Try.func60 zr rfl #[.int .i64 ((rd_T63 l0 x3_1).f1), .int .i64 0, .int .i64 32] rfl zm ?_; (with_reducible refine (spec_l01In.calls ((rd_T63 l0 x3_1).f1) 0 32 true _ A4.out).mono ?_); rintro e w' ⟨rfl, ⟨nd, rfl⟩⟩; refine ⟨_, rfl, ?_⟩; have p129 : 0 ≤ (x3_1 : Int) := jB za; have q129 : x3_1 < (l0.length : Int) := jB za; obtain ⟨ad129, e129, hx129_0, hx129_1⟩ := at_T63 HR0.out x3_1 p129 q129; obtain rfl : ad124 = ad129 := (by injection e129); replace p129 := eq_true p129; replace q129 := eq_true q129) | (go_at_call 60; (with_reducible refine (spec_l01In.calls ((rd_T63 l0 x3_1).f0) 0 (wrap64 (x3_1 - 1)) true _ A12.out).mono ?_); rintro e w' ⟨rfl, ⟨nd, rfl⟩⟩))
         go_roundg k1
         case measure => have := HK1.out; omega
         case rel => exact ⟨(wrap64 (x3_1 + 1)), zz, H', ⟨by have := HK1.out; omega⟩, by repeat (first | exact Drawn0.refl _ | apply Drawn0.step)⟩
        ·replace c13 := Bool.eq_false_iff.mpr c13
         subst c13
         have H1 : (some false) = some r := by rw [if_neg (show ¬ (false = true) by decide)] at H; exact H
         clear H
         have H := H1
         clear H1
         obtain rfl := jW H
         have p124 : 0 ≤ (x3_1 : Int) := jB za
         have q124 : x3_1 < (l0.length : Int) := jB za
         obtain ⟨ad124, e124, hx124_0, hx124_1⟩ := at_T63 HR0.out x3_1 p124 q124
         cases e124
         replace p124 := eq_true p124
         replace q124 := eq_true q124
         go_wp2_with (first | ((with_reducible refine jN (f := 60) rfl ?_); refine goesL_ (some 15) rfl rfl Try.func60 zr rfl #[.int .i64 ((rd_T63 l0 x3_1).f1), .int .i64 0, .int .i64 32] rfl zm ?_; (with_reducible refine (spec_l01In.calls ((rd_T63 l0 x3_1).f1) 0 32 true _ A4.out).mono ?_); rintro e w' ⟨rfl, ⟨nd, rfl⟩⟩; refine ⟨_, rfl, ?_⟩; have p129 : 0 ≤ (x3_1 : Int) := jB za; have q129 : x3_1 < (l0.length : Int) := jB za; obtain ⟨ad129, e129, hx129_0, hx129_1⟩ := at_T63 HR0.out x3_1 p129 q129; obtain rfl : ad124 = ad129 := (by injection e129); replace p129 := eq_true p129; replace q129 := eq_true q129) | (go_at_call 60; (with_reducible refine (spec_l01In.calls ((rd_T63 l0 x3_1).f0) 0 (wrap64 (x3_1 - 1)) false _ A12.out).mono ?_); rintro e w' ⟨rfl, ⟨nd, rfl⟩⟩))
         go_ret
         exact ⟨by first | rfl | (simp; done) | (simp [*]; done), by repeat (first | exact Drawn0.refl _ | apply Drawn0.step)⟩
       ·rw [if_neg c11] at H
        have c11b0 : decide (0 < x3_1) = false := ja c11
        clear c11
        have H' := jA H
        clear H
        have p124 : 0 ≤ (x3_1 : Int) := jB za
        have q124 : x3_1 < (l0.length : Int) := jB za
        obtain ⟨ad124, e124, hx124_0, hx124_1⟩ := at_T63 HR0.out x3_1 p124 q124
        cases e124
        replace p124 := eq_true p124
        replace q124 := eq_true q124
        go_wp2_with (first | ((with_reducible refine jN (f := 60) rfl ?_); refine goesL_ (some 15) rfl rfl Try.func60 zr rfl #[.int .i64 ((rd_T63 l0 x3_1).f1), .int .i64 0, .int .i64 32] rfl zm ?_; (with_reducible refine (spec_l01In.calls ((rd_T63 l0 x3_1).f1) 0 32 true _ A4.out).mono ?_); rintro e w' ⟨rfl, ⟨nd, rfl⟩⟩; refine ⟨_, rfl, ?_⟩))
        go_roundg k1
        case measure => have := HK1.out; omega
        case rel => exact ⟨(wrap64 (x3_1 + 1)), zz, H', ⟨by have := HK1.out; omega⟩, by repeat (first | exact Drawn0.refl _ | apply Drawn0.step)⟩
     ·replace c5 := Bool.eq_false_iff.mpr c5
      subst c5
      have H1 : (some false) = some r := by rw [if_neg (show ¬ (false = true) by decide)] at H; exact H
      clear H
      have H := H1
      clear H1
      obtain rfl := jW H
      have p124 : 0 ≤ (x3_1 : Int) := jB za
      have q124 : x3_1 < (l0.length : Int) := jB za
      obtain ⟨ad124, e124, hx124_0, hx124_1⟩ := at_T63 HR0.out x3_1 p124 q124
      cases e124
      replace p124 := eq_true p124
      replace q124 := eq_true q124
      go_wp2_with (first | ((with_reducible refine jN (f := 60) rfl ?_); refine goesL_ (some 15) rfl rfl Try.func60 zr rfl #[.int .i64 ((rd_T63 l0 x3_1).f1), .int .i64 0, .int .i64 32] rfl zm ?_; (with_reducible refine (spec_l01In.calls ((rd_T63 l0 x3_1).f1) 0 32 false _ A4.out).mono ?_); rintro e w' ⟨rfl, ⟨nd, rfl⟩⟩; refine ⟨_, rfl, ?_⟩))
      go_ret
      exact ⟨by first | rfl | (simp; done) | (simp [*]; done), by repeat (first | exact Drawn0.refl _ | apply Drawn0.step)⟩
    ·rw [if_neg c3] at H
     exact absurd H (by simp)
   ·rw [if_neg c2] at H
    have c2b0 : decide (x3_1 < (l0.length : Int)) = false := ja c2
    clear c2
    replace H := jD.mp H
    obtain ⟨t123, A140, H⟩ := H
    replace H : (some t123) = some r := H
    have A14 := jA A140
    clear A140
    obtain rfl := jW H
    go_wp2_with (first | ((with_reducible refine jN (f := 60) rfl ?_); refine goesL_ (some 46) rfl rfl Try.func60 zr rfl #[.int .i64 (l0.length : Int), .int .i64 1, .int .i64 12] rfl zm ?_; (with_reducible refine (spec_l01In.calls (l0.length : Int) 1 12 t123 _ A14.out).mono ?_); rintro e w' ⟨rfl, ⟨nd, rfl⟩⟩; refine ⟨_, rfl, ?_⟩))
    go_ret
    exact ⟨by first | rfl | (simp; done) | (simp [*]; done), by repeat (first | exact Drawn0.refl _ | apply Drawn0.step)⟩

/-! ### spec_l12Code: function 81 -/
def spec_l12Code.f (k : Nat) (l0 : List (S63)) (a1 : Int) : Option (Int) := (spec_AreModules.f k l0).bind fun t131 => (if t131 = true then ((spec_l01In.f a1 0 (wrap64 ((l0.length : Int) - 1))).bind fun t132 => (if t132 = true then (some 0) else (some 2))) else (some 1))
theorem spec_l12Code.mono : ∀ a0 a1 k, LeO (spec_l12Code.f k a0 a1) (spec_l12Code.f (k + 1) a0 a1) := by
 intro a0 a1 k
 unfold spec_l12Code.f
 repeat' first
   | (with_reducible exact spec_AreModules.mono _ _)
   | (with_reducible exact LeO.refl _)
   | (with_reducible exact LeO.none _)
   | (with_reducible refine LeO.ite ?_ ?_)
   | (with_reducible refine LeO.bind ?_ (fun _ => ?_))
   | exact spec_AreModules.mono _ _
   | exact LeO.none _
   | refine LeO.ite ?_ ?_
   | refine LeO.bind ?_ (fun _ => ?_)
set_option maxHeartbeats 8000000 in
set_option maxRecDepth 100000 in
theorem spec_l12Code.calls (k : Nat) (A0 : Option Addr) (c0 : Nat) (l0 : List (S63)) (a1 : Int) (r : Int) (w : World) (hr0 : Kd.C k63 w A0 l0.length l0) (hc0 : l0.length ≤ c0) (h : spec_l12Code.f k l0 a1 = some r) :
  Calls Try.prog 81 #[.slice A0 l0.length c0, .int .i64 a1] w fun e w' => e = .returned (.int .i64 r) ∧ Drawn0 w w' := by
 have HR0 := jA hr0
 have HC0 := jA hc0
 clear hr0 hc0
 have H : ((spec_AreModules.f k l0).bind fun t131 => (if t131 = true then ((spec_l01In.f a1 0 (wrap64 ((l0.length : Int) - 1))).bind fun t132 => (if t132 = true then (some 0) else (some 2))) else (some 1))) = some r := h
 clear h
 replace H := jD.mp H
 obtain ⟨t131, A30, H⟩ := H
 replace H : (if t131 = true then ((spec_l01In.f a1 0 (wrap64 ((l0.length : Int) - 1))).bind fun t132 => (if t132 = true then (some 0) else (some 2))) else (some 1)) = some r := H
 have A3 := jA A30
 clear A30
 by_cases c4 : t131 = true
 ·subst c4
  have H1 : ((spec_l01In.f a1 0 (wrap64 ((l0.length : Int) - 1))).bind fun t132 => (if t132 = true then (some 0) else (some 2))) = some r := by rw [if_pos rfl] at H; exact H
  clear H
  have H := H1
  clear H1
  replace H := jD.mp H
  obtain ⟨t132, A50, H⟩ := H
  replace H : (if t132 = true then (some 0) else (some 2)) = some r := H
  have A5 := jA A50
  clear A50
  by_cases c6 : t132 = true
  ·subst c6
   have H1 : (some 0) = some r := by rw [if_pos rfl] at H; exact H
   clear H
   have H := H1
   clear H1
   obtain rfl := jW H
   go_enter Try.func81, Try.ntmps81
   go_wp2_with (first | ((with_reducible refine jN (f := 59) rfl ?_); refine goesL_ (some 6) rfl rfl Try.func59 zr rfl #[.slice A0 l0.length c0] rfl zm ?_; (with_reducible refine (spec_AreModules.calls k _ _ l0 true _ ?side1 ?side2 A3.out).mono ?_); (case side1 => repeat (first | exact HR0.out | (with_reducible refine jR ?_ _) | (with_reducible refine jQ ?_ _) | (with_reducible refine jS ?_))); (case side2 => exact HC0.out); rintro e w' ⟨rfl, ⟨nd, rfl⟩⟩; refine ⟨_, rfl, ?_⟩) | ((with_reducible refine jN (f := 60) rfl ?_); refine goesL_ (some 12) rfl rfl Try.func60 zr rfl #[.int .i64 a1, .int .i64 0, .int .i64 (wrap64 ((l0.length : Int) - 1))] rfl zm ?_; (with_reducible refine (spec_l01In.calls a1 0 (wrap64 ((l0.length : Int) - 1)) true _ A5.out).mono ?_); rintro e w' ⟨rfl, ⟨nd, rfl⟩⟩; refine ⟨_, rfl, ?_⟩))
   go_ret
   exact ⟨by first | rfl | (simp; done) | (simp [*]; done), by repeat (first | exact Drawn0.refl _ | apply Drawn0.step)⟩
  ·replace c6 := Bool.eq_false_iff.mpr c6
   subst c6
   have H1 : (some 2) = some r := by rw [if_neg (show ¬ (false = true) by decide)] at H; exact H
   clear H
   have H := H1
   clear H1
   obtain rfl := jW H
   go_enter Try.func81, Try.ntmps81
   go_wp2_with (first | ((with_reducible refine jN (f := 59) rfl ?_); refine goesL_ (some 6) rfl rfl Try.func59 zr rfl #[.slice A0 l0.length c0] rfl zm ?_; (with_reducible refine (spec_AreModules.calls k _ _ l0 true _ ?side1 ?side2 A3.out).mono ?_); (case side1 => repeat (first | exact HR0.out | (with_reducible refine jR ?_ _) | (with_reducible refine jQ ?_ _) | (with_reducible refine jS ?_))); (case side2 => exact HC0.out); rintro e w' ⟨rfl, ⟨nd, rfl⟩⟩; refine ⟨_, rfl, ?_⟩) | ((with_reducible refine jN (f := 60) rfl ?_); refine goesL_ (some 12) rfl rfl Try.func60 zr rfl #[.int .i64 a1, .int .i64 0, .int .i64 (wrap64 ((l0.length : Int) - 1))] rfl zm ?_; (with_reducible refine (spec_l01In.calls a1 0 (wrap64 ((l0.length : Int) - 1)) false _ A5.out).mono ?_); rintro e w' ⟨rfl, ⟨nd, rfl⟩⟩; refine ⟨_, rfl, ?_⟩))
   go_ret
   exact ⟨by first | rfl | (simp; done) | (simp [*]; done), by repeat (first | exact Drawn0.refl _ | apply Drawn0.step)⟩
 ·replace c4 := Bool.eq_false_iff.mpr c4
  subst c4
  have H1 : (some 1) = some r := by rw [if_neg (show ¬ (false = true) by decide)] at H; exact H
  clear H
  have H := H1
  clear H1
  obtain rfl := jW H
  go_enter Try.func81, Try.ntmps81
  go_wp2_with (first | ((with_reducible refine jN (f := 59) rfl ?_); refine goesL_ (some 6) rfl rfl Try.func59 zr rfl #[.slice A0 l0.length c0] rfl zm ?_; (with_reducible refine (spec_AreModules.calls k _ _ l0 false _ ?side1 ?side2 A3.out).mono ?_); (case side1 => repeat (first | exact HR0.out | (with_reducible refine jR ?_ _) | (with_reducible refine jQ ?_ _) | (with_reducible refine jS ?_))); (case side2 => exact HC0.out); rintro e w' ⟨rfl, ⟨nd, rfl⟩⟩; refine ⟨_, rfl, ?_⟩))
  go_ret
  exact ⟨by first | rfl | (simp; done) | (simp [*]; done), by repeat (first | exact Drawn0.refl _ | apply Drawn0.step)⟩

/-! ### spec_l23Code: function 49 -/
def spec_l23Code.f (k : Nat) (l0 : List (S63)) (a1 : Int) (a2 : Int) (a3 : Int) : Option (Int) := (spec_l12Code.f k l0 a3).bind fun t133 => (if t133 = 0 then ((spec_l01In.f a1 1 10).bind fun t134 => (if t134 = true then ((spec_l01In.f a2 0 100000).bind fun t135 => (if t135 = true then (some t133) else (some 2))) else (some 2))) else (some t133))
theorem spec_l23Code.mono : ∀ a0 a1 a2 a3 k, LeO (spec_l23Code.f k a0 a1 a2 a3) (spec_l23Code.f (k + 1) a0 a1 a2 a3) := by
 intro a0 a1 a2 a3 k
 unfold spec_l23Code.f
 repeat' first
   | (with_reducible exact spec_l12Code.mono _ _ _)
   | (with_reducible exact LeO.refl _)
   | (with_reducible exact LeO.none _)
   | (with_reducible refine LeO.ite ?_ ?_)
   | (with_reducible refine LeO.bind ?_ (fun _ => ?_))
   | exact spec_l12Code.mono _ _ _
   | exact LeO.none _
   | refine LeO.ite ?_ ?_
   | refine LeO.bind ?_ (fun _ => ?_)
set_option maxHeartbeats 8000000 in
set_option maxRecDepth 100000 in
theorem spec_l23Code.calls (k : Nat) (A0 : Option Addr) (c0 : Nat) (l0 : List (S63)) (a1 : Int) (a2 : Int) (a3 : Int) (r : Int) (w : World) (hr0 : Kd.C k63 w A0 l0.length l0) (hc0 : l0.length ≤ c0) (h : spec_l23Code.f k l0 a1 a2 a3 = some r) :
  Calls Try.prog 49 #[.slice A0 l0.length c0, .int .i64 a1, .int .i64 a2, .int .i64 a3] w fun e w' => e = .returned (.int .i64 r) ∧ Drawn0 w w' := by
 have HR0 := jA hr0
 have HC0 := jA hc0
 clear hr0 hc0
 have H : ((spec_l12Code.f k l0 a3).bind fun t133 => (if t133 = 0 then ((spec_l01In.f a1 1 10).bind fun t134 => (if t134 = true then ((spec_l01In.f a2 0 100000).bind fun t135 => (if t135 = true then (some t133) else (some 2))) else (some 2))) else (some t133))) = some r := h
 clear h
 replace H := jD.mp H
 obtain ⟨t133, A50, H⟩ := H
 replace H : (if t133 = 0 then ((spec_l01In.f a1 1 10).bind fun t134 => (if t134 = true then ((spec_l01In.f a2 0 100000).bind fun t135 => (if t135 = true then (some t133) else (some 2))) else (some 2))) else (some t133)) = some r := H
 have A5 := jA A50
 clear A50
 by_cases c6 : t133 = 0
 ·rw [if_pos c6] at H
  have c6b0 : (t133 == 0) = true := beq_iff_eq.mpr c6
  have c6b1 : (t133 != 0) = false := bne_eq_false_iff_eq.mpr c6
  clear c6
  replace H := jD.mp H
  obtain ⟨t134, A70, H⟩ := H
  replace H : (if t134 = true then ((spec_l01In.f a2 0 100000).bind fun t135 => (if t135 = true then (some t133) else (some 2))) else (some 2)) = some r := H
  have A7 := jA A70
  clear A70
  by_cases c8 : t134 = true
  ·subst c8
   have H1 : ((spec_l01In.f a2 0 100000).bind fun t135 => (if t135 = true then (some t133) else (some 2))) = some r := by rw [if_pos rfl] at H; exact H
   clear H
   have H := H1
   clear H1
   replace H := jD.mp H
   obtain ⟨t135, A90, H⟩ := H
   replace H : (if t135 = true then (some t133) else (some 2)) = some r := H
   have A9 := jA A90
   clear A90
   by_cases c10 : t135 = true
   ·subst c10
    have H1 : (some t133) = some r := by rw [if_pos rfl] at H; exact H
    clear H
    have H := H1
    clear H1
    obtain rfl := jW H
    go_enter Try.func49, Try.ntmps49
    go_wp2_with (first | ((with_reducible refine jN (f := 81) rfl ?_); refine goesL_ (some 12) rfl rfl Try.func81 zr rfl #[.slice A0 l0.length c0, .int .i64 a3] rfl zm ?_; (with_reducible refine (spec_l12Code.calls k _ _ l0 a3 t133 _ ?side1 ?side2 A5.out).mono ?_); (case side1 => repeat (first | exact HR0.out | (with_reducible refine jR ?_ _) | (with_reducible refine jQ ?_ _) | (with_reducible refine jS ?_))); (case side2 => exact HC0.out); rintro e w' ⟨rfl, ⟨nd, rfl⟩⟩; refine ⟨_, rfl, ?_⟩) | (go_at_call 60; (with_reducible refine (spec_l01In.calls a1 1 10 true _ A7.out).mono ?_); rintro e w' ⟨rfl, ⟨nd, rfl⟩⟩) | (go_at_call 60; (with_reducible refine (spec_l01In.calls a2 0 100000 true _ A9.out).mono ?_); rintro e w' ⟨rfl, ⟨nd, rfl⟩⟩))
    go_ret
    exact ⟨by first | rfl | (simp; done) | (simp [*]; done), by repeat (first | exact Drawn0.refl _ | apply Drawn0.step)⟩
   ·replace c10 := Bool.eq_false_iff.mpr c10
    subst c10
    have H1 : (some 2) = some r := by rw [if_neg (show ¬ (false = true) by decide)] at H; exact H
    clear H
    have H := H1
    clear H1
    obtain rfl := jW H
    go_enter Try.func49, Try.ntmps49
    go_wp2_with (first | ((with_reducible refine jN (f := 81) rfl ?_); refine goesL_ (some 12) rfl rfl Try.func81 zr rfl #[.slice A0 l0.length c0, .int .i64 a3] rfl zm ?_; (with_reducible refine (spec_l12Code.calls k _ _ l0 a3 t133 _ ?side1 ?side2 A5.out).mono ?_); (case side1 => repeat (first | exact HR0.out | (with_reducible refine jR ?_ _) | (with_reducible refine jQ ?_ _) | (with_reducible refine jS ?_))); (case side2 => exact HC0.out); rintro e w' ⟨rfl, ⟨nd, rfl⟩⟩; refine ⟨_, rfl, ?_⟩) | (go_at_call 60; (with_reducible refine (spec_l01In.calls a1 1 10 true _ A7.out).mono ?_); rintro e w' ⟨rfl, ⟨nd, rfl⟩⟩) | (go_at_call 60; (with_reducible refine (spec_l01In.calls a2 0 100000 false _ A9.out).mono ?_); rintro e w' ⟨rfl, ⟨nd, rfl⟩⟩))
    go_ret
    exact ⟨by first | rfl | (simp; done) | (simp [*]; done), by repeat (first | exact Drawn0.refl _ | apply Drawn0.step)⟩
  ·replace c8 := Bool.eq_false_iff.mpr c8
   subst c8
   have H1 : (some 2) = some r := by rw [if_neg (show ¬ (false = true) by decide)] at H; exact H
   clear H
   have H := H1
   clear H1
   obtain rfl := jW H
   go_enter Try.func49, Try.ntmps49
   go_wp2_with (first | ((with_reducible refine jN (f := 81) rfl ?_); refine goesL_ (some 12) rfl rfl Try.func81 zr rfl #[.slice A0 l0.length c0, .int .i64 a3] rfl zm ?_; (with_reducible refine (spec_l12Code.calls k _ _ l0 a3 t133 _ ?side1 ?side2 A5.out).mono ?_); (case side1 => repeat (first | exact HR0.out | (with_reducible refine jR ?_ _) | (with_reducible refine jQ ?_ _) | (with_reducible refine jS ?_))); (case side2 => exact HC0.out); rintro e w' ⟨rfl, ⟨nd, rfl⟩⟩; refine ⟨_, rfl, ?_⟩) | (go_at_call 60; (with_reducible refine (spec_l01In.calls a1 1 10 false _ A7.out).mono ?_); rintro e w' ⟨rfl, ⟨nd, rfl⟩⟩))
   go_ret
   exact ⟨by first | rfl | (simp; done) | (simp [*]; done), by repeat (first | exact Drawn0.refl _ | apply Drawn0.step)⟩
 ·rw [if_neg c6] at H
  have c6b0 : (t133 == 0) = false := beq_eq_false_iff_ne.mpr c6
  have c6b1 : (t133 != 0) = true := bne_iff_ne.mpr c6
  obtain rfl := jW H
  go_enter Try.func49, Try.ntmps49
  go_wp2_with (first | ((with_reducible refine jN (f := 81) rfl ?_); refine goesL_ (some 12) rfl rfl Try.func81 zr rfl #[.slice A0 l0.length c0, .int .i64 a3] rfl zm ?_; (with_reducible refine (spec_l12Code.calls k _ _ l0 a3 t133 _ ?side1 ?side2 A5.out).mono ?_); (case side1 => repeat (first | exact HR0.out | (with_reducible refine jR ?_ _) | (with_reducible refine jQ ?_ _) | (with_reducible refine jS ?_))); (case side2 => exact HC0.out); rintro e w' ⟨rfl, ⟨nd, rfl⟩⟩; refine ⟨_, rfl, ?_⟩))
  go_ret
  exact ⟨by first | rfl | (simp; done) | (simp [*]; done), by repeat (first | exact Drawn0.refl _ | apply Drawn0.step)⟩

/-! ### spec_l13Pin: function 90 -/
def spec_l13Pin.f (l0 : List (S63)) (a1 : Int) (a2 : Int) : Option (Bool) := (spec_l01In.f a1 0 (wrap64 ((l0.length : Int) - 1))).bind fun t136 => (if t136 = true then (if 0 ≤ a1 then (if a1 < (l0.length : Int) then ((spec_l01In.f a2 0 (wrap64 (((rd_T63 l0 a1).f1) - 1))).bind fun t138 => (some t138)) else (none)) else (none)) else (some false))
set_option maxHeartbeats 8000000 in
set_option maxRecDepth 100000 in
theorem spec_l13Pin.calls (A0 : Option Addr) (c0 : Nat) (l0 : List (S63)) (a1 : Int) (a2 : Int) (r : Bool) (w : World) (hr0 : Kd.C k63 w A0 l0.length l0) (hc0 : l0.length ≤ c0) (h : spec_l13Pin.f l0 a1 a2 = some r) :
  Calls Try.prog 90 #[.slice A0 l0.length c0, .int .i64 a1, .int .i64 a2] w fun e w' => e = .returned (.bool r) ∧ Drawn0 w w' := by
 have HR0 := jA hr0
 have HC0 := jA hc0
 clear hr0 hc0
 have H : ((spec_l01In.f a1 0 (wrap64 ((l0.length : Int) - 1))).bind fun t136 => (if t136 = true then (if 0 ≤ a1 then (if a1 < (l0.length : Int) then ((spec_l01In.f a2 0 (wrap64 (((rd_T63 l0 a1).f1) - 1))).bind fun t138 => (some t138)) else (none)) else (none)) else (some false))) = some r := h
 clear h
 replace H := jD.mp H
 obtain ⟨t136, A40, H⟩ := H
 replace H : (if t136 = true then (if 0 ≤ a1 then (if a1 < (l0.length : Int) then ((spec_l01In.f a2 0 (wrap64 (((rd_T63 l0 a1).f1) - 1))).bind fun t138 => (some t138)) else (none)) else (none)) else (some false)) = some r := H
 have A4 := jA A40
 clear A40
 by_cases c5 : t136 = true
 ·subst c5
  have H1 : (if 0 ≤ a1 then (if a1 < (l0.length : Int) then ((spec_l01In.f a2 0 (wrap64 (((rd_T63 l0 a1).f1) - 1))).bind fun t138 => (some t138)) else (none)) else (none)) = some r := by rw [if_pos rfl] at H; exact H
  clear H
  have H := H1
  clear H1
  by_cases c6 : 0 ≤ a1
  ·rw [if_pos c6] at H
   have c6b0 : decide (0 ≤ a1) = true := jP c6
   clear c6
   by_cases c7 : a1 < (l0.length : Int)
   ·rw [if_pos c7] at H
    have c7b0 : decide (a1 < (l0.length : Int)) = true := jP c7
    clear c7
    replace H := jD.mp H
    obtain ⟨t138, A80, H⟩ := H
    replace H : (some t138) = some r := H
    have A8 := jA A80
    clear A80
    obtain rfl := jW H
    go_enter Try.func90, Try.ntmps90
    go_wp2_with (first | ((with_reducible refine jN (f := 60) rfl ?_); refine goesL_ (some 11) rfl rfl Try.func60 zr rfl #[.int .i64 a1, .int .i64 0, .int .i64 (wrap64 ((l0.length : Int) - 1))] rfl zm ?_; (with_reducible refine (spec_l01In.calls a1 0 (wrap64 ((l0.length : Int) - 1)) true _ A4.out).mono ?_); rintro e w' ⟨rfl, ⟨nd, rfl⟩⟩; refine ⟨_, rfl, ?_⟩; have p137 : 0 ≤ (a1 : Int) := jB za; have q137 : a1 < (l0.length : Int) := jB za; obtain ⟨ad137, e137, hx137_0, hx137_1⟩ := at_T63 HR0.out a1 p137 q137; cases e137; replace p137 := eq_true p137; replace q137 := eq_true q137) | (go_at_call 60; (with_reducible refine (spec_l01In.calls a2 0 (wrap64 (((rd_T63 l0 a1).f1) - 1)) t138 _ A8.out).mono ?_); rintro e w' ⟨rfl, ⟨nd, rfl⟩⟩))
    go_ret
    exact ⟨by first | rfl | (simp; done) | (simp [*]; done), by repeat (first | exact Drawn0.refl _ | apply Drawn0.step)⟩
   ·rw [if_neg c7] at H
    exact absurd H (by simp)
  ·rw [if_neg c6] at H
   exact absurd H (by simp)
 ·replace c5 := Bool.eq_false_iff.mpr c5
  subst c5
  have H1 : (some false) = some r := by rw [if_neg (show ¬ (false = true) by decide)] at H; exact H
  clear H
  have H := H1
  clear H1
  obtain rfl := jW H
  go_enter Try.func90, Try.ntmps90
  go_wp2_with (first | ((with_reducible refine jN (f := 60) rfl ?_); refine goesL_ (some 11) rfl rfl Try.func60 zr rfl #[.int .i64 a1, .int .i64 0, .int .i64 (wrap64 ((l0.length : Int) - 1))] rfl zm ?_; (with_reducible refine (spec_l01In.calls a1 0 (wrap64 ((l0.length : Int) - 1)) false _ A4.out).mono ?_); rintro e w' ⟨rfl, ⟨nd, rfl⟩⟩; refine ⟨_, rfl, ?_⟩))
  go_ret
  exact ⟨by first | rfl | (simp; done) | (simp [*]; done), by repeat (first | exact Drawn0.refl _ | apply Drawn0.step)⟩

/-! ### spec_l13At: function 91 -/
def spec_l13At.l0 : Nat → List (S59) → Int → Int → Int → Option (Int)
 | 0, _, _, _, _ => none
 | k + 1, x0, x1, x2, x7 => if x7 < (x0.length : Int) then (if 0 ≤ x7 then (if ((rd_T59 x0 x7).f1) = x1 then (if ((rd_T59 x0 x7).f2) = x2 then (some x7) else (spec_l13At.l0 k x0 x1 x2 (wrap64 (x7 + 1)))) else (spec_l13At.l0 k x0 x1 x2 (wrap64 (x7 + 1)))) else (none)) else (some (-1))
def spec_l13At.f (k : Nat) (l0 : List (S59)) (a1 : Int) (a2 : Int) : Option (Int) := spec_l13At.l0 k l0 a1 a2 0
theorem spec_l13At.mono_l : ∀ k, (∀ y0 y1 y2 y3, LeO (spec_l13At.l0 k y0 y1 y2 y3) (spec_l13At.l0 (k + 1) y0 y1 y2 y3))
 | 0 => fun _ _ _ _ r h => by simp [spec_l13At.l0] at h
 | k + 1 => by
  have ih0 := spec_l13At.mono_l k
  ·intro y0 y1 y2 y3
   unfold spec_l13At.l0
   repeat' first
   | (with_reducible exact ih0 _ _ _ _)
   | (with_reducible exact LeO.refl _)
   | (with_reducible exact LeO.none _)
   | (with_reducible refine LeO.ite ?_ ?_)
   | (with_reducible refine LeO.bind ?_ (fun _ => ?_))
   | exact ih0 _ _ _ _
   | exact LeO.none _
   | refine LeO.ite ?_ ?_
   | refine LeO.bind ?_ (fun _ => ?_)
theorem spec_l13At.mono : ∀ a0 a1 a2 k, LeO (spec_l13At.f k a0 a1 a2) (spec_l13At.f (k + 1) a0 a1 a2) := by
 intro a0 a1 a2 k
 have ih0 := spec_l13At.mono_l k
 unfold spec_l13At.f
 repeat' first
   | (with_reducible exact ih0 _ _ _ _)
   | (with_reducible exact LeO.refl _)
   | (with_reducible exact LeO.none _)
   | (with_reducible refine LeO.ite ?_ ?_)
   | (with_reducible refine LeO.bind ?_ (fun _ => ?_))
   | exact ih0 _ _ _ _
   | exact LeO.none _
   | refine LeO.ite ?_ ?_
   | refine LeO.bind ?_ (fun _ => ?_)
set_option maxHeartbeats 8000000 in
set_option maxRecDepth 100000 in
theorem spec_l13At.calls (k : Nat) (A0 : Option Addr) (c0 : Nat) (l0 : List (S59)) (a1 : Int) (a2 : Int) (r : Int) (w : World) (hr0 : Kd.C k59 w A0 l0.length l0) (hc0 : l0.length ≤ c0) (h : spec_l13At.f k l0 a1 a2 = some r) :
  Calls Try.prog 91 #[.slice A0 l0.length c0, .int .i64 a1, .int .i64 a2] w fun e w' => e = .returned (.int .i64 r) ∧ Drawn0 w w' := by
 have HR0 := jA hr0
 have HC0 := jA hc0
 clear hr0 hc0
 have H : (spec_l13At.l0 k l0 a1 a2 0) = some r := h
 clear h
 have H' := jA H
 clear H
 go_enter Try.func91, Try.ntmps91
 go_wp2
 go_loopg [7] k (fun kq v7 w' => ∃ (x7_1 : Int), v7 = .int .i64 x7_1 ∧ Aside0 (spec_l13At.l0 kq l0 a1 a2 x7_1 = some r) ∧ Aside0 (kq ≤ k) ∧ Drawn0 w w')
 case atStart => exact ⟨(0), zz, H', ⟨Nat.le_refl _⟩, by repeat (first | exact Drawn0.refl _ | apply Drawn0.step)⟩
 case round =>
  clear H'
  try clear p2
  obtain ⟨x7_1, rfl, HA, HK1, ⟨m1, rfl⟩⟩ := hrel
  cases gk with
  | zero => exact absurd HA.out (by simp [spec_l13At.l0])
  | succ k1 =>
   have H := HA.out
   clear HA
   simp only [spec_l13At.l0] at H
   by_cases c4 : x7_1 < (l0.length : Int)
   ·rw [if_pos c4] at H
    have c4b0 : decide (x7_1 < (l0.length : Int)) = true := jP c4
    clear c4
    by_cases c5 : 0 ≤ x7_1
    ·rw [if_pos c5] at H
     have c5b0 : decide (0 ≤ x7_1) = true := jP c5
     clear c5
     by_cases c6 : ((rd_T59 l0 x7_1).f1) = a1
     ·rw [if_pos c6] at H
      have c6b0 : (((rd_T59 l0 x7_1).f1) == a1) = true := beq_iff_eq.mpr c6
      have c6b1 : (((rd_T59 l0 x7_1).f1) != a1) = false := bne_eq_false_iff_eq.mpr c6
      clear c6
      by_cases c7 : ((rd_T59 l0 x7_1).f2) = a2
      ·rw [if_pos c7] at H
       have c7b0 : (((rd_T59 l0 x7_1).f2) == a2) = true := beq_iff_eq.mpr c7
       have c7b1 : (((rd_T59 l0 x7_1).f2) != a2) = false := bne_eq_false_iff_eq.mpr c7
       clear c7
       obtain rfl := jW H
       have p139 : 0 ≤ (x7_1 : Int) := jB za
       have q139 : x7_1 < (l0.length : Int) := jB za
       obtain ⟨ad139, e139, hx139_0, hx139_1, hx139_2⟩ := at_T59 HR0.out x7_1 p139 q139
       cases e139
       replace p139 := eq_true p139
       replace q139 := eq_true q139
       have p140 : 0 ≤ (x7_1 : Int) := jB za
       have q140 : x7_1 < (l0.length : Int) := jB za
       obtain ⟨ad140, e140, hx140_0, hx140_1, hx140_2⟩ := at_T59 HR0.out x7_1 p140 q140
       obtain rfl : ad139 = ad140 := (by injection e140)
       replace p140 := eq_true p140
       replace q140 := eq_true q140
       go_wp2
       go_ret
       exact ⟨by first | rfl | (simp; done) | (simp [*]; done), by repeat (first | exact Drawn0.refl _ | apply Drawn0.step)⟩
      ·rw [if_neg c7] at H
       have c7b0 : (((rd_T59 l0 x7_1).f2) == a2) = false := beq_eq_false_iff_ne.mpr c7
       have c7b1 : (((rd_T59 l0 x7_1).f2) != a2) = true := bne_iff_ne.mpr c7
       have H' := jA H
       clear H
       have p139 : 0 ≤ (x7_1 : Int) := jB za
       have q139 : x7_1 < (l0.length : Int) := jB za
       obtain ⟨ad139, e139, hx139_0, hx139_1, hx139_2⟩ := at_T59 HR0.out x7_1 p139 q139
       cases e139
       replace p139 := eq_true p139
       replace q139 := eq_true q139
       have p140 : 0 ≤ (x7_1 : Int) := jB za
       have q140 : x7_1 < (l0.length : Int) := jB za
       obtain ⟨ad140, e140, hx140_0, hx140_1, hx140_2⟩ := at_T59 HR0.out x7_1 p140 q140
       obtain rfl : ad139 = ad140 := (by injection e140)
       replace p140 := eq_true p140
       replace q140 := eq_true q140
       go_wp2
       go_roundg k1
       case measure => have := HK1.out; omega
       case rel => exact ⟨(wrap64 (x7_1 + 1)), zz, H', ⟨by have := HK1.out; omega⟩, by repeat (first | exact Drawn0.refl _ | apply Drawn0.step)⟩
     ·rw [if_neg c6] at H
      have c6b0 : (((rd_T59 l0 x7_1).f1) == a1) = false := beq_eq_false_iff_ne.mpr c6
      have c6b1 : (((rd_T59 l0 x7_1).f1) != a1) = true := bne_iff_ne.mpr c6
      have H' := jA H
      clear H
      have p139 : 0 ≤ (x7_1 : Int) := jB za
      have q139 : x7_1 < (l0.length : Int) := jB za
      obtain ⟨ad139, e139, hx139_0, hx139_1, hx139_2⟩ := at_T59 HR0.out x7_1 p139 q139
      cases e139
      replace p139 := eq_true p139
      replace q139 := eq_true q139
      go_wp2
      go_roundg k1
      case measure => have := HK1.out; omega
      case rel => exact ⟨(wrap64 (x7_1 + 1)), zz, H', ⟨by have := HK1.out; omega⟩, by repeat (first | exact Drawn0.refl _ | apply Drawn0.step)⟩
    ·rw [if_neg c5] at H
     exact absurd H (by simp)
   ·rw [if_neg c4] at H
    have c4b0 : decide (x7_1 < (l0.length : Int)) = false := ja c4
    clear c4
    obtain rfl := jW H
    go_wp2
    go_ret
    exact ⟨by first | rfl | (simp; done) | (simp [*]; done), by repeat (first | exact Drawn0.refl _ | apply Drawn0.step)⟩

end Go.Proofs.Ytddejaomlnldiaa.PFnStops
