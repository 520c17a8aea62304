/- Functions and contracts that FnStops reaches (3 of 14). -/
import Derived.Test.YtddejaomlnldiaaQFnStopsx1
namespace Go.Proofs.Ytddejaomlnldiaa.PFnStops
open Go.RowKit Go.Proofs.YtddejaomlnldiaaW.PrintWords Go.Proofs.YtddejaomlnldiaaW.PrintLast Go.Proofs.YtddejaomlnldiaaW.PrintMore
attribute [local go_sem] max2_int min2_int max_two min_two max_three min_three max_four min_four   -- for this text's walks alone
set_option linter.unusedVariables false
set_option linter.unusedSimpArgs false

/-! ### spec_AreWires: function 85 -/
mutual
def spec_AreWires.j0 : Nat → List (S63) → Int → List (S59) → Bool → Option (Bool)
 | 0, _, _, _, _ => none
 | k + 1, x0, x1, x2, x16 => if x16 = true then (some false) else (spec_AreWires.l0 k x0 x1 x2 0)
def spec_AreWires.l0 : Nat → List (S63) → Int → List (S59) → Int → Option (Bool)
 | 0, _, _, _, _ => none
 | k + 1, x0, x1, x2, x7 => if x7 < (x2.length : Int) then (if 0 ≤ x7 then ((spec_l01In.f ((rd_T59 x2 x7).f0) 0 (wrap64 (x1 - 1))).bind fun t145 => (if t145 = true then ((spec_l13Pin.f x0 ((rd_T59 x2 x7).f1) ((rd_T59 x2 x7).f2)).bind fun t146 => (if t146 = true then (if x7 > 0 then (if 0 ≤ (wrap64 (x7 - 1)) then (if (wrap64 (x7 - 1)) < (x2.length : Int) then (if ((rd_T59 x2 (wrap64 (x7 - 1))).f0) ≥ ((rd_T59 x2 x7).f0) then (some false) else ((spec_l13At.f k x2 ((rd_T59 x2 x7).f1) ((rd_T59 x2 x7).f2)).bind fun t148 => (if t148 = x7 then (spec_AreWires.l0 k x0 x1 x2 (wrap64 (x7 + 1))) else (some false)))) else (none)) else (none)) else ((spec_l13At.f k x2 ((rd_T59 x2 x7).f1) ((rd_T59 x2 x7).f2)).bind fun t149 => (if t149 = x7 then (spec_AreWires.l0 k x0 x1 x2 (wrap64 (x7 + 1))) else (some false)))) else (some false))) else (some false))) else (none)) else (some true)
end
def spec_AreWires.f (k : Nat) (l0 : List (S63)) (a1 : Int) (l2 : List (S59)) : Option (Bool) := (spec_AreModules.f k l0).bind fun t141 => (if t141 = true then ((spec_l01In.f a1 0 20).bind fun t142 => (spec_AreWires.j0 k l0 a1 l2 (!t142))) else (spec_AreWires.j0 k l0 a1 l2 true))
theorem spec_AreWires.mono_l : ∀ k, (∀ y0 y1 y2 y3, LeO (spec_AreWires.j0 k y0 y1 y2 y3) (spec_AreWires.j0 (k + 1) y0 y1 y2 y3)) ∧ (∀ y0 y1 y2 y3, LeO (spec_AreWires.l0 k y0 y1 y2 y3) (spec_AreWires.l0 (k + 1) y0 y1 y2 y3))
 | 0 => ⟨fun _ _ _ _ r h => by simp [spec_AreWires.j0] at h, fun _ _ _ _ r h => by simp [spec_AreWires.l0] at h⟩
 | k + 1 => by
  obtain ⟨ih0, ih1⟩ := spec_AreWires.mono_l k
  refine ⟨?_, ?_⟩
  ·intro y0 y1 y2 y3
   unfold spec_AreWires.j0
   repeat' first
   | (with_reducible exact ih0 _ _ _ _)
   | (with_reducible exact ih1 _ _ _ _)
   | (with_reducible exact spec_AreModules.mono _ _)
   | (with_reducible exact spec_l13At.mono _ _ _ _)
   | (with_reducible exact LeO.refl _)
   | (with_reducible exact LeO.none _)
   | (with_reducible refine LeO.ite ?_ ?_)
   | (with_reducible refine LeO.bind ?_ (fun _ => ?_))
   | exact ih0 _ _ _ _
   | exact ih1 _ _ _ _
   | exact spec_AreModules.mono _ _
   | exact spec_l13At.mono _ _ _ _
   | exact LeO.none _
   | refine LeO.ite ?_ ?_
   | refine LeO.bind ?_ (fun _ => ?_)
  ·intro y0 y1 y2 y3
   unfold spec_AreWires.l0
   repeat' first
   | (with_reducible exact ih0 _ _ _ _)
   | (with_reducible exact ih1 _ _ _ _)
   | (with_reducible exact spec_AreModules.mono _ _)
   | (with_reducible exact spec_l13At.mono _ _ _ _)
   | (with_reducible exact LeO.refl _)
   | (with_reducible exact LeO.none _)
   | (with_reducible refine LeO.ite ?_ ?_)
   | (with_reducible refine LeO.bind ?_ (fun _ => ?_))
   | exact ih0 _ _ _ _
   | exact ih1 _ _ _ _
   | exact spec_AreModules.mono _ _
   | exact spec_l13At.mono _ _ _ _
   | exact LeO.none _
   | refine LeO.ite ?_ ?_
   | refine LeO.bind ?_ (fun _ => ?_)
theorem spec_AreWires.mono : ∀ a0 a1 a2 k, LeO (spec_AreWires.f k a0 a1 a2) (spec_AreWires.f (k + 1) a0 a1 a2) := by
 intro a0 a1 a2 k
 obtain ⟨ih0, ih1⟩ := spec_AreWires.mono_l k
 unfold spec_AreWires.f
 repeat' first
   | (with_reducible exact ih0 _ _ _ _)
   | (with_reducible exact ih1 _ _ _ _)
   | (with_reducible exact spec_AreModules.mono _ _)
   | (with_reducible exact spec_l13At.mono _ _ _ _)
   | (with_reducible exact LeO.refl _)
   | (with_reducible exact LeO.none _)
   | (with_reducible refine LeO.ite ?_ ?_)
   | (with_reducible refine LeO.bind ?_ (fun _ => ?_))
   | exact ih0 _ _ _ _
   | exact ih1 _ _ _ _
   | exact spec_AreModules.mono _ _
   | exact spec_l13At.mono _ _ _ _
   | exact LeO.none _
   | refine LeO.ite ?_ ?_
   | refine LeO.bind ?_ (fun _ => ?_)
def spec_AreWires.T7 : Bool × List (List Nat × List Nat) := (true, [([], []), ([0], [0]), ([], []), ([2], [2]), ([1, 3], [1, 3]), ([4], [4]), ([5, 4], [5]), ([6], [6]), ([6], [6]), ([8, 6], [6, 8]), ([6], [6]), ([10, 6], [6, 10]), ([7, 9, 11, 6, 6], [6, 7, 9, 11]), ([12, 6], [6, 12]), ([6, 13], [6, 13]), ([14, 12], [14]), ([15], [15]), ([16, 15], [15, 16]), ([17, 15, 15], [15, 17]), ([18], [18]), ([18], [18]), ([20, 18], [18, 20]), ([19, 21, 18], [18, 19, 21]), ([22, 18], [18, 22]), ([23, 18], [18, 23]), ([18], [18]), ([25, 18], [18, 25]), ([24, 26, 18], [18, 24, 26]), ([18, 27, 15], [15, 18, 27]), ([15, 28], [15, 28]), ([29, 18], [29]), ([30], [30]), ([30], [30]), ([32, 30], [30, 32]), ([30], [30]), ([34, 30], [30, 34]), ([31, 33, 35, 30, 30], [30, 31, 33, 35]), ([30], [30]), ([36, 37, 30], [30, 36, 37]), ([30, 38], [30, 38])])
def spec_AreWires.B7 : List Nat := [0, 1, 0, 4, 15, 31, 63, 127, 127, 383, 127, 1151, 4095, 8191, 16383, 32767, 65535, 131071, 262143, 524287, 524287, 1572863, 4194303, 8388607, 16777215, 524287, 34078719, 134217727, 268435455, 536870911, 1073741823, 2147483647, 2147483647, 6442450943, 2147483647, 19327352831, 68719476735, 2147483647, 274877906943, 549755813887]
theorem spec_AreWires.tab7 : rtab .any (opsOf Try.f85 7) = spec_AreWires.T7 := by kernel_rfl
theorem spec_AreWires.bits7 : waitsOk spec_AreWires.T7.2 spec_AreWires.B7 = true := by kernel_rfl
set_option maxHeartbeats 8000000 in
set_option maxRecDepth 100000 in
theorem spec_AreWires.calls (k : Nat) (A0 : Option Addr) (c0 : Nat) (l0 : List (S63)) (a1 : Int) (A2 : Option Addr) (c2 : Nat) (l2 : List (S59)) (r : Bool) (w : World) (hr0 : Kd.C k63 w A0 l0.length l0) (hc0 : l0.length ≤ c0) (hr2 : Kd.C k59 w A2 l2.length l2) (hc2 : l2.length ≤ c2) (h : spec_AreWires.f k l0 a1 l2 = some r) :
  Calls Try.prog 85 #[.slice A0 l0.length c0, .int .i64 a1, .slice A2 l2.length c2] w fun e w' => e = .returned (.bool r) ∧ Below w.heap.size w w' := by
 have hu59 := Try.underlying59
 have HR0 := jA hr0
 have HC0 := jA hc0
 clear hr0 hc0
 have HR2 := jA hr2
 have HC2 := jA hc2
 clear hr2 hc2
 have HB := jA (Below.refl w.heap.size w)
 have H : ((spec_AreModules.f k l0).bind fun t141 => (if t141 = true then ((spec_l01In.f a1 0 20).bind fun t142 => (spec_AreWires.j0 k l0 a1 l2 (!t142))) else (spec_AreWires.j0 k l0 a1 l2 true))) = some r := h
 clear h
 have HC4 := jA H
 clear H
 go_enter Try.func85, Try.ntmps85
 go_upto_region 1 with (fail)
 go_cut [16] (fun v16 wc => ∃ (kq : Nat) (x16_3 : Bool), v16 = .bool x16_3 ∧ Aside0 (spec_AreWires.j0 kq l0 a1 l2 x16_3 = some r) ∧ Aside0 (kq ≤ k) ∧ Aside0 (Below w.heap.size w wc))
 case first =>
  have H := HC4.out
  clear HC4
  replace H := jD.mp H
  obtain ⟨t141, A50, H⟩ := H
  replace H : (if t141 = true then ((spec_l01In.f a1 0 20).bind fun t142 => (spec_AreWires.j0 k l0 a1 l2 (!t142))) else (spec_AreWires.j0 k l0 a1 l2 true)) = some r := H
  have A5 := jA A50
  clear A50
  by_cases c6 : t141 = true
  ·subst c6
   have H1 : ((spec_l01In.f a1 0 20).bind fun t142 => (spec_AreWires.j0 k l0 a1 l2 (!t142))) = some r := by rw [if_pos rfl] at H; exact H
   clear H
   have H := H1
   clear H1
   replace H := jD.mp H
   obtain ⟨t142, A70, H⟩ := H
   replace H : (spec_AreWires.j0 k l0 a1 l2 (!t142)) = some r := H
   have A7 := jA A70
   clear A70
   have H' := jA H
   clear H
   go_wp2_with (first | ((with_reducible refine jN (f := 59) rfl ?_); refine goesL_ (some 10) rfl rfl Try.func59 zr rfl #[.slice A0 l0.length c0] rfl zm ?_; (with_reducible refine (spec_AreModules.calls k _ _ l0 true _ ?side1 ?side2 A5.out).mono ?_); (case side1 => exact zs HR0 HB); (case side2 => exact HC0.out); rintro e w' ⟨rfl, ⟨nd, rfl⟩⟩; refine ⟨_, rfl, ?_⟩) | (go_at_call 60; (with_reducible refine (spec_l01In.calls a1 0 20 t142 _ A7.out).mono ?_); rintro e w' ⟨rfl, ⟨nd, rfl⟩⟩))
   go_meet
   case rel => exact ⟨_, (!t142), zz, H', ⟨by first | omega | exact Nat.le_refl _⟩, ⟨zb0 HB⟩⟩
  ·replace c6 := Bool.eq_false_iff.mpr c6
   subst c6
   have H1 : (spec_AreWires.j0 k l0 a1 l2 true) = some r := by rw [if_neg (show ¬ (false = true) by decide)] at H; exact H
   clear H
   have H := H1
   clear H1
   have H' := jA H
   clear H
   go_wp2_with (first | ((with_reducible refine jN (f := 59) rfl ?_); refine goesL_ (some 10) rfl rfl Try.func59 zr rfl #[.slice A0 l0.length c0] rfl zm ?_; (with_reducible refine (spec_AreModules.calls k _ _ l0 false _ ?side1 ?side2 A5.out).mono ?_); (case side1 => exact zs HR0 HB); (case side2 => exact HC0.out); rintro e w' ⟨rfl, ⟨nd, rfl⟩⟩; refine ⟨_, rfl, ?_⟩))
   go_meet
   case rel => exact ⟨_, (true), zz, H', ⟨by first | omega | exact Nat.le_refl _⟩, ⟨zb0 HB⟩⟩
 case rest =>
  clear HC4
  try clear c2
  try clear p2
  try clear c5
  try clear c6
  obtain ⟨kq, x16_3, rfl, HA, HJ3, HB⟩ := hcut
  cases kq with
  | zero => exact absurd HA.out (by simp [spec_AreWires.j0])
  | succ kj3 =>
   have H := HA.out
   clear HA
   simp only [spec_AreWires.j0] at H
   by_cases c8 : x16_3 = true
   ·subst c8
    have H1 : (some false) = some r := by rw [if_pos rfl] at H; exact H
    clear H
    have H := H1
    clear H1
    obtain rfl := jW H
    go_wp2
    go_ret
    exact ⟨by first | rfl | (simp [errW_none, errW_some] <;> rfl) | (simp [*, errW_none, errW_some] <;> rfl), zb0 HB⟩
   ·replace c8 := Bool.eq_false_iff.mpr c8
    subst c8
    have H1 : (spec_AreWires.l0 kj3 l0 a1 l2 0) = some r := by rw [if_neg (show ¬ (false = true) by decide)] at H; exact H
    clear H
    have H := H1
    clear H1
    have H' := jA H
    clear H
    go_wp2
    go_loopg [7] kj3 (fun kq v7 w' => ∃ (x7_2 : Int), v7 = .int .i64 x7_2 ∧ Aside0 (spec_AreWires.l0 kq l0 a1 l2 x7_2 = some r) ∧ Aside0 (kq ≤ kj3) ∧ Aside0 (Below w.heap.size w w'))
    case atStart => exact ⟨(0), zz, H', ⟨Nat.le_refl _⟩, ⟨zb0 HB⟩⟩
    case round =>
     clear H'
     try clear c2
     try clear p2
     try clear c5
     try clear c6
     try clear c8
     try clear p2
     obtain ⟨x7_2, rfl, HA, HK2, HB⟩ := hrel
     cases gk with
     | zero => exact absurd HA.out (by simp [spec_AreWires.l0])
     | succ k2 =>
      have H := HA.out
      clear HA
      simp only [spec_AreWires.l0] at H
      by_cases c9 : x7_2 < (l2.length : Int)
      ·rw [if_pos c9] at H
       have c9b0 : decide (x7_2 < (l2.length : Int)) = true := jP c9
       clear c9
       by_cases c10 : 0 ≤ x7_2
       ·rw [if_pos c10] at H
        have c10b0 : decide (0 ≤ x7_2) = true := jP c10
        clear c10
        replace H := jD.mp H
        obtain ⟨t145, A110, H⟩ := H
        replace H : (if t145 = true then ((spec_l13Pin.f l0 ((rd_T59 l2 x7_2).f1) ((rd_T59 l2 x7_2).f2)).bind fun t146 => (if t146 = true then (if x7_2 > 0 then (if 0 ≤ (wrap64 (x7_2 - 1)) then (if (wrap64 (x7_2 - 1)) < (l2.length : Int) then (if ((rd_T59 l2 (wrap64 (x7_2 - 1))).f0) ≥ ((rd_T59 l2 x7_2).f0) then (some false) else ((spec_l13At.f k2 l2 ((rd_T59 l2 x7_2).f1) ((rd_T59 l2 x7_2).f2)).bind fun t148 => (if t148 = x7_2 then (spec_AreWires.l0 k2 l0 a1 l2 (wrap64 (x7_2 + 1))) else (some false)))) else (none)) else (none)) else ((spec_l13At.f k2 l2 ((rd_T59 l2 x7_2).f1) ((rd_T59 l2 x7_2).f2)).bind fun t149 => (if t149 = x7_2 then (spec_AreWires.l0 k2 l0 a1 l2 (wrap64 (x7_2 + 1))) else (some false)))) else (some false))) else (some false)) = some r := H
        have A11 := jA A110
        clear A110
        by_cases c12 : t145 = true
        ·subst c12
         have H1 : ((spec_l13Pin.f l0 ((rd_T59 l2 x7_2).f1) ((rd_T59 l2 x7_2).f2)).bind fun t146 => (if t146 = true then (if x7_2 > 0 then (if 0 ≤ (wrap64 (x7_2 - 1)) then (if (wrap64 (x7_2 - 1)) < (l2.length : Int) then (if ((rd_T59 l2 (wrap64 (x7_2 - 1))).f0) ≥ ((rd_T59 l2 x7_2).f0) then (some false) else ((spec_l13At.f k2 l2 ((rd_T59 l2 x7_2).f1) ((rd_T59 l2 x7_2).f2)).bind fun t148 => (if t148 = x7_2 then (spec_AreWires.l0 k2 l0 a1 l2 (wrap64 (x7_2 + 1))) else (some false)))) else (none)) else (none)) else ((spec_l13At.f k2 l2 ((rd_T59 l2 x7_2).f1) ((rd_T59 l2 x7_2).f2)).bind fun t149 => (if t149 = x7_2 then (spec_AreWires.l0 k2 l0 a1 l2 (wrap64 (x7_2 + 1))) else (some false)))) else (some false))) = some r := by rw [if_pos rfl] at H; exact H
         clear H
         have H := H1
         clear H1
         replace H := jD.mp H
         obtain ⟨t146, A130, H⟩ := H
         replace H : (if t146 = true then (if x7_2 > 0 then (if 0 ≤ (wrap64 (x7_2 - 1)) then (if (wrap64 (x7_2 - 1)) < (l2.length : Int) then (if ((rd_T59 l2 (wrap64 (x7_2 - 1))).f0) ≥ ((rd_T59 l2 x7_2).f0) then (some false) else ((spec_l13At.f k2 l2 ((rd_T59 l2 x7_2).f1) ((rd_T59 l2 x7_2).f2)).bind fun t148 => (if t148 = x7_2 then (spec_AreWires.l0 k2 l0 a1 l2 (wrap64 (x7_2 + 1))) else (some false)))) else (none)) else (none)) else ((spec_l13At.f k2 l2 ((rd_T59 l2 x7_2).f1) ((rd_T59 l2 x7_2).f2)).bind fun t149 => (if t149 = x7_2 then (spec_AreWires.l0 k2 l0 a1 l2 (wrap64 (x7_2 + 1))) else (some false)))) else (some false)) = some r := H
         have A13 := jA A130
         clear A130
         by_cases c14 : t146 = true
         ·subst c14
          have H1 : (if x7_2 > 0 then (if 0 ≤ (wrap64 (x7_2 - 1)) then (if (wrap64 (x7_2 - 1)) < (l2.length : Int) then (if ((rd_T59 l2 (wrap64 (x7_2 - 1))).f0) ≥ ((rd_T59 l2 x7_2).f0) then (some false) else ((spec_l13At.f k2 l2 ((rd_T59 l2 x7_2).f1) ((rd_T59 l2 x7_2).f2)).bind fun t148 => (if t148 = x7_2 then (spec_AreWires.l0 k2 l0 a1 l2 (wrap64 (x7_2 + 1))) else (some false)))) else (none)) else (none)) else ((spec_l13At.f k2 l2 ((rd_T59 l2 x7_2).f1) ((rd_T59 l2 x7_2).f2)).bind fun t149 => (if t149 = x7_2 then (spec_AreWires.l0 k2 l0 a1 l2 (wrap64 (x7_2 + 1))) else (some false)))) = some r := by rw [if_pos rfl] at H; exact H
          clear H
          have H := H1
          clear H1
          by_cases c15 : x7_2 > 0
          ·rw [if_pos c15] at H
           have c15b0 : decide (0 < x7_2) = true := jP c15
           clear c15
           obtain ⟨ji16, hji16⟩ : ∃ j_ : Int, (wrap64 (x7_2 - 1)) = j_ := ⟨_, rfl⟩
           replace H : (if 0 ≤ (ji16) then (if (ji16) < (l2.length : Int) then (if ((rd_T59 l2 (ji16)).f0) ≥ ((rd_T59 l2 x7_2).f0) then (some false) else ((spec_l13At.f k2 l2 ((rd_T59 l2 x7_2).f1) ((rd_T59 l2 x7_2).f2)).bind fun t148 => (if t148 = x7_2 then (spec_AreWires.l0 k2 l0 a1 l2 (wrap64 (x7_2 + 1))) else (some false)))) else (none)) else (none)) = some r := by first | (rw [hji16] at H; exact H) | (simp only [hji16] at H ⊢; exact H)
           (try rw [hji16] at A11)
           (try rw [hji16] at A13)
           have hji16w : (IntKind.i64.wrap (x7_2 - 1)) = ji16 := (i64_w _).trans hji16
           by_cases c17 : 0 ≤ (ji16)
           ·rw [if_pos c17] at H
            have c17b0 : decide (0 ≤ (ji16)) = true := jP c17
            clear c17
            by_cases c18 : (ji16) < (l2.length : Int)
            ·rw [if_pos c18] at H
             have c18b0 : decide ((ji16) < (l2.length : Int)) = true := jP c18
             clear c18
             by_cases c19 : ((rd_T59 l2 (ji16)).f0) ≥ ((rd_T59 l2 x7_2).f0)
             ·rw [if_pos c19] at H
              have c19b0 : decide (((rd_T59 l2 x7_2).f0) ≤ ((rd_T59 l2 (ji16)).f0)) = true := jP c19
              clear c19
              obtain rfl := jW H
              have p143 : 0 ≤ (x7_2 : Int) := jB za
              have q143 : x7_2 < (l2.length : Int) := jB za
              obtain ⟨ad143, e143, hx143_0, hx143_1, hx143_2⟩ := at_T59 HR2.out x7_2 p143 q143
              cases e143
              replace hx143_0 := (HB.out.cell (jC w _ hx143_0)).trans hx143_0
              replace hx143_1 := (HB.out.cell (jC w _ hx143_1)).trans hx143_1
              replace hx143_2 := (HB.out.cell (jC w _ hx143_2)).trans hx143_2
              replace p143 := eq_true p143
              replace q143 := eq_true q143
              try go_wp2_with (first | ((with_reducible refine gate_dst (N := 8) rfl ?_); refine box_event ?hg (N := 8) ?hd (cs := #[.int .i64 0, .int .i64 0, .int .i64 0]) (t := 59) ?hr ?_; (case hd => rfl); (case hg => rfl); (case hr => first | (go_simp; done) | (go_simp; rfl)); intro gb144 hg w20 hbox hb; have n0_ := jA (jV (zb0 HB) hb); have n1_ := jA (hbox); have n2_ := jA ((by rw [hg]; exact (jY (zb0 HB)) : w.heap.size ≤ gb144)); have n3_ := jA ((by rw [hg]; exact (jY (zb0 HB)) : w.heap.size ≤ gb144)); clear HB; have HB := n0_; have BK144 := n1_; have GW144 := n2_; have GE144 := n3_; clear n0_ n1_ n2_ n3_; clear hb hbox hg; have hcz21_0 : w20.cell? ⟨gb144, 0, none⟩ = some (.int .i64 0) := (jF BK144.out 0).trans rfl; have hcz21_1 : w20.cell? ⟨gb144, 1, none⟩ = some (.int .i64 0) := (jF BK144.out 1).trans rfl; have hcz21_2 : w20.cell? ⟨gb144, 2, none⟩ = some (.int .i64 0) := (jF BK144.out 2).trans rfl; have hfz21_0 := jX BK144.out 0; have hfz21_1 := jX BK144.out 1; have hfz21_2 := jX BK144.out 2))
              have n0_ : Aside0 ((((w20.setCell ⟨gb144, 0, none⟩ (.int .i64 ((rd_T59 l2 x7_2).f0))).setCell ⟨gb144, 1, none⟩ (.int .i64 ((rd_T59 l2 x7_2).f1))).setCell ⟨gb144, 2, none⟩ (.int .i64 ((rd_T59 l2 x7_2).f2))).heap[gb144]? = some (.cells #[.int .i64 ((rd_T59 l2 x7_2).f0), .int .i64 ((rd_T59 l2 x7_2).f1), .int .i64 ((rd_T59 l2 x7_2).f2)] 59 (0, 0))) := ⟨by (with_reducible repeat (first | refine jc ?_ _ | refine jb ?_ | refine jd ?_ _)); refine blk_put (cs := #[.int .i64 ((rd_T59 l2 x7_2).f0), .int .i64 ((rd_T59 l2 x7_2).f1), .int .i64 0]) ?_ 2 _ rfl; (with_reducible repeat (first | refine jc ?_ _ | refine jb ?_ | refine jd ?_ _)); refine blk_put (cs := #[.int .i64 ((rd_T59 l2 x7_2).f0), .int .i64 0, .int .i64 0]) ?_ 1 _ rfl; (with_reducible repeat (first | refine jc ?_ _ | refine jb ?_ | refine jd ?_ _)); refine blk_put (cs := #[.int .i64 0, .int .i64 0, .int .i64 0]) ?_ 0 _ rfl; (with_reducible repeat (first | refine jc ?_ _ | refine jb ?_ | refine jd ?_ _)); exact BK144.out⟩
              have n1_ : Aside0 (Below w.heap.size w (((w20.setCell ⟨gb144, 0, none⟩ (.int .i64 ((rd_T59 l2 x7_2).f0))).setCell ⟨gb144, 1, none⟩ (.int .i64 ((rd_T59 l2 x7_2).f1))).setCell ⟨gb144, 2, none⟩ (.int .i64 ((rd_T59 l2 x7_2).f2)))) := ⟨zb1 HB GE144⟩
              (try clear BK144)
              (try clear HB)
              generalize (((w20.setCell ⟨gb144, 0, none⟩ (.int .i64 ((rd_T59 l2 x7_2).f0))).setCell ⟨gb144, 1, none⟩ (.int .i64 ((rd_T59 l2 x7_2).f1))).setCell ⟨gb144, 2, none⟩ (.int .i64 ((rd_T59 l2 x7_2).f2))) = w22 at n0_ n1_ ⊢
              have BK144 := n0_
              have HB := n1_
              clear n0_ n1_
              have n0_ := jA (jb BK144.out)
              have n1_ := jA (jI HB.out)
              clear BK144
              clear HB
              have BK144 := n0_
              have HB := n1_
              clear n0_ n1_
              have p147 : 0 ≤ ((ji16) : Int) := jB za
              have q147 : (ji16) < (l2.length : Int) := jB za
              obtain ⟨ad147, e147, hx147_0, hx147_1, hx147_2⟩ := at_T59 HR2.out (ji16) p147 q147
              have hw147_2 := hx147_2
              have hw147_1 := hx147_1
              have hw147_0 := hx147_0
              obtain rfl : ad143 = ad147 := (by injection e147)
              replace hx147_0 := (HB.out.cell (jC w _ hx147_0)).trans hx147_0
              replace hx147_1 := (HB.out.cell (jC w _ hx147_1)).trans hx147_1
              replace hx147_2 := (HB.out.cell (jC w _ hx147_2)).trans hx147_2
              replace p147 := eq_true p147
              replace q147 := eq_true q147
              refine start_ (n := 40) (S := fun w' => w'.cell? ⟨gb144, 0, none⟩ = some (.int .i64 ((rd_T59 l2 x7_2).f0)) ∧ w'.cell? ⟨gb144, 1, none⟩ = some (.int .i64 ((rd_T59 l2 x7_2).f1)) ∧ w'.cell? ⟨gb144, 2, none⟩ = some (.int .i64 ((rd_T59 l2 x7_2).f2)) ∧ w'.cell? (ad143.add (((ji16)).toNat * 3)) = some (.int .i64 ((rd_T59 l2 (ji16)).f0)) ∧ w'.cell? ⟨(ad143.add (((ji16)).toNat * 3)).block, (ad143.add (((ji16)).toNat * 3)).off + 1, none⟩ = some (.int .i64 ((rd_T59 l2 (ji16)).f1)) ∧ w'.cell? ⟨(ad143.add (((ji16)).toNat * 3)).block, (ad143.add (((ji16)).toNat * 3)).off + 2, none⟩ = some (.int .i64 ((rd_T59 l2 (ji16)).f2))) (ds := []) m40_0 zr rfl rfl ⟨(jF BK144.out 0).trans rfl, (jF BK144.out 1).trans rfl, (jF BK144.out 2).trans rfl, ((HB.out.cell (jC w _ hw147_0)).trans hw147_0), ((HB.out.cell (jC w _ hw147_1)).trans hw147_1), ((HB.out.cell (jC w _ hw147_2)).trans hw147_2)⟩ (fun hHeld => ?_); refine with_tabW spec_AreWires.tab7 spec_AreWires.bits7 (fun HT_ HW_ => ?_)
              generalize w22.drew = w23 at BK144 HB hx147_0 hx147_1 hx147_2 hHeld ⊢
              refine zp HT_ 0 27 m40_8000000000 ?_
              refine zp HT_ 2 29 m40_a000000000 ?_
              refine zp HT_ 3 30 m40_b000000000 ?_
              refine zt6 HT_ HW_ hHeld 1 28 m40_f000000000 ?_
              refine one_ (i := 4) (N := some 31) m40_f800000000 rfl rfl (one_of HT_.out zr) (by decide) (fun K hK => ?_)
              refine goes_ Try.func60 zr rfl #[.int .i64 ((rd_T59 l2 x7_2).f0), .int .i64 0, .int .i64 (wrap64 (a1 - 1))] (by rfl) rfl rfl zm ?_
              with_reducible refine (spec_l01In.calls ((rd_T59 l2 x7_2).f0) 0 (wrap64 (a1 - 1)) true _ A11.out).mono ?_
              rintro e w' ⟨rfl, ⟨nd, rfl⟩⟩
              refine ⟨_, rfl, ?_⟩
              refine hK.out _ _ ⟨(jF BK144.out 0).trans rfl, (jF BK144.out 1).trans rfl, (jF BK144.out 2).trans rfl, ((HB.out.cell (jC w _ hw147_0)).trans hw147_0), ((HB.out.cell (jC w _ hw147_1)).trans hw147_1), ((HB.out.cell (jC w _ hw147_2)).trans hw147_2)⟩ (fun hHeld => ?_)
              clear hK K
              refine norm_ (a' := ?_) ?_ ?_
              rotate_left
              ·show Act.put _ (some 31) _ = _
               simp only [Act.put, jO, jT, jU, i64_w, i32_w]
               rfl
              refine zp HT_ 5 32 m40_fc00000000 ?_
              refine zp HT_ 6 33 m40_fe00000000 ?_
              refine zp HT_ 7 34 m40_ff00000000 ?_
              refine zp HT_ 8 35 m40_ff80000000 ?_
              refine zp HT_ 10 37 m40_ffa0000000 ?_
              refine zt6 HT_ HW_ hHeld 9 36 m40_ffe0000000 ?_
              refine zt6 HT_ HW_ hHeld 11 38 m40_fff0000000 ?_
              refine one_ (i := 12) (N := some 39) m40_fff8000000 rfl rfl (one_of HT_.out zr) (by decide) (fun K hK => ?_)
              refine goes_ Try.func90 zr rfl #[.slice A0 l0.length c0, .int .i64 ((rd_T59 l2 x7_2).f1), .int .i64 ((rd_T59 l2 x7_2).f2)] (by rfl) rfl rfl zm ?_
              with_reducible refine (spec_l13Pin.calls _ _ l0 ((rd_T59 l2 x7_2).f1) ((rd_T59 l2 x7_2).f2) true _ ?side1 ?side2 A13.out).mono ?_
              (case side1 => repeat (first | exact HR0.out | exact (Kd.C_below HR0.out (zb1 HB GE144)) | (with_reducible refine jR ?_ _) | (with_reducible refine jQ ?_ _) | (with_reducible refine jS ?_)))
              (case side2 => exact HC0.out)
              rintro e w' ⟨rfl, ⟨nd, rfl⟩⟩
              refine ⟨_, rfl, ?_⟩
              refine hK.out _ _ ⟨(jF BK144.out 0).trans rfl, (jF BK144.out 1).trans rfl, (jF BK144.out 2).trans rfl, ((HB.out.cell (jC w _ hw147_0)).trans hw147_0), ((HB.out.cell (jC w _ hw147_1)).trans hw147_1), ((HB.out.cell (jC w _ hw147_2)).trans hw147_2)⟩ (fun hHeld => ?_)
              clear hK K
              refine norm_ (a' := ?_) ?_ ?_
              rotate_left
              ·show Act.put _ (some 39) _ = _
               simp only [Act.put, jO, jT, jU, i64_w, i32_w]
               rfl
              refine zp HT_ 13 40 m40_fffc000000 ?_
              refine zp HT_ 14 41 m40_fffe000000 ?_
              refine zp HT_ 15 42 m40_ffff000000 ?_
              refine zp HT_ 16 43 m40_ffff800000 ?_
              refine zp HT_ 17 44 m40_ffffc00000 ?_
              refine zp HT_ 18 45 m40_ffffe00000 ?_
              refine zp HT_ 19 46 m40_fffff00000 ?_
              refine zp HT_ 20 47 m40_fffff80000 ?_
              refine zp HT_ 21 48 m40_fffffc0000 ?_
              refine zp HT_ 22 49 m40_fffffe0000 ?_
              refine zp HT_ 23 50 m40_ffffff0000 ?_
              refine zp HT_ 25 52 m40_ffffff4000 ?_
              refine zt6 HT_ HW_ hHeld 24 51 m40_ffffffc000 ?_
              refine zt6 HT_ HW_ hHeld 26 53 m40_ffffffe000 ?_
              refine zp HT_ 27 54 m40_fffffff000 ?_
              refine zp HT_ 28 55 m40_fffffff800 ?_
              refine zp HT_ 29 56 m40_fffffffc00 ?_
              refine zp HT_ 30 57 m40_fffffffe00 ?_
              refine zq HT_ 31 58 m40_ffffffff00 ?_
              refine zq HT_ 32 59 m40_ffffffff80 ?_
              refine zq HT_ 33 60 m40_ffffffffc0 ?_
              refine zq HT_ 34 61 m40_ffffffffe0 ?_
              refine zq HT_ 35 62 m40_fffffffff0 ?_
              refine zq HT_ 36 63 m40_fffffffff8 ?_
              refine zq HT_ 37 64 m40_fffffffffc ?_
              refine zq HT_ 38 65 m40_fffffffffe ?_
              refine zp HT_ 39 66 m40_ffffffffff ?_
              refine done_ (done_of HT_.out zr) ?_
              try go_wp2
              go_ret
              exact ⟨by first | rfl | (simp [errW_none, errW_some] <;> rfl) | (simp only [← hji16]; first | rfl | (simp [errW_none, errW_some] <;> rfl)) | (simp [*, errW_none, errW_some] <;> rfl), zb1 HB GE144⟩
             ·rw [if_neg c19] at H
              have c19b0 : decide (((rd_T59 l2 x7_2).f0) ≤ ((rd_T59 l2 (ji16)).f0)) = false := ja c19
              clear c19
              replace H := jD.mp H
              obtain ⟨t148, A240, H⟩ := H
              replace H : (if t148 = x7_2 then (spec_AreWires.l0 k2 l0 a1 l2 (wrap64 (x7_2 + 1))) else (some false)) = some r := H
              have A24 := jA A240
              clear A240
              by_cases c25 : t148 = x7_2
              ·rw [if_pos c25] at H
               have c25b0 : (t148 == x7_2) = true := beq_iff_eq.mpr c25
               have c25b1 : (t148 != x7_2) = false := bne_eq_false_iff_eq.mpr c25
               clear c25
               have H' := jA H
               clear H
               have p143 : 0 ≤ (x7_2 : Int) := jB za
               have q143 : x7_2 < (l2.length : Int) := jB za
               obtain ⟨ad143, e143, hx143_0, hx143_1, hx143_2⟩ := at_T59 HR2.out x7_2 p143 q143
               cases e143
               replace hx143_0 := (HB.out.cell (jC w _ hx143_0)).trans hx143_0
               replace hx143_1 := (HB.out.cell (jC w _ hx143_1)).trans hx143_1
               replace hx143_2 := (HB.out.cell (jC w _ hx143_2)).trans hx143_2
               replace p143 := eq_true p143
               replace q143 := eq_true q143
               try go_wp2_with (first | ((with_reducible refine gate_dst (N := 8) rfl ?_); refine box_event ?hg (N := 8) ?hd (cs := #[.int .i64 0, .int .i64 0, .int .i64 0]) (t := 59) ?hr ?_; (case hd => rfl); (case hg => rfl); (case hr => first | (go_simp; done) | (go_simp; rfl)); intro gb144 hg w26 hbox hb; have n0_ := jA (jV (zb0 HB) hb); have n1_ := jA (hbox); have n2_ := jA ((by rw [hg]; exact (jY (zb0 HB)) : w.heap.size ≤ gb144)); have n3_ := jA ((by rw [hg]; exact (jY (zb0 HB)) : w.heap.size ≤ gb144)); clear HB; have HB := n0_; have BK144 := n1_; have GW144 := n2_; have GE144 := n3_; clear n0_ n1_ n2_ n3_; clear hb hbox hg; have hcz27_0 : w26.cell? ⟨gb144, 0, none⟩ = some (.int .i64 0) := (jF BK144.out 0).trans rfl; have hcz27_1 : w26.cell? ⟨gb144, 1, none⟩ = some (.int .i64 0) := (jF BK144.out 1).trans rfl; have hcz27_2 : w26.cell? ⟨gb144, 2, none⟩ = some (.int .i64 0) := (jF BK144.out 2).trans rfl; have hfz27_0 := jX BK144.out 0; have hfz27_1 := jX BK144.out 1; have hfz27_2 := jX BK144.out 2))
               have n0_ : Aside0 ((((w26.setCell ⟨gb144, 0, none⟩ (.int .i64 ((rd_T59 l2 x7_2).f0))).setCell ⟨gb144, 1, none⟩ (.int .i64 ((rd_T59 l2 x7_2).f1))).setCell ⟨gb144, 2, none⟩ (.int .i64 ((rd_T59 l2 x7_2).f2))).heap[gb144]? = some (.cells #[.int .i64 ((rd_T59 l2 x7_2).f0), .int .i64 ((rd_T59 l2 x7_2).f1), .int .i64 ((rd_T59 l2 x7_2).f2)] 59 (0, 0))) := ⟨by (with_reducible repeat (first | refine jc ?_ _ | refine jb ?_ | refine jd ?_ _)); refine blk_put (cs := #[.int .i64 ((rd_T59 l2 x7_2).f0), .int .i64 ((rd_T59 l2 x7_2).f1), .int .i64 0]) ?_ 2 _ rfl; (with_reducible repeat (first | refine jc ?_ _ | refine jb ?_ | refine jd ?_ _)); refine blk_put (cs := #[.int .i64 ((rd_T59 l2 x7_2).f0), .int .i64 0, .int .i64 0]) ?_ 1 _ rfl; (with_reducible repeat (first | refine jc ?_ _ | refine jb ?_ | refine jd ?_ _)); refine blk_put (cs := #[.int .i64 0, .int .i64 0, .int .i64 0]) ?_ 0 _ rfl; (with_reducible repeat (first | refine jc ?_ _ | refine jb ?_ | refine jd ?_ _)); exact BK144.out⟩
               have n1_ : Aside0 (Below w.heap.size w (((w26.setCell ⟨gb144, 0, none⟩ (.int .i64 ((rd_T59 l2 x7_2).f0))).setCell ⟨gb144, 1, none⟩ (.int .i64 ((rd_T59 l2 x7_2).f1))).setCell ⟨gb144, 2, none⟩ (.int .i64 ((rd_T59 l2 x7_2).f2)))) := ⟨zb1 HB GE144⟩
               (try clear BK144)
               (try clear HB)
               generalize (((w26.setCell ⟨gb144, 0, none⟩ (.int .i64 ((rd_T59 l2 x7_2).f0))).setCell ⟨gb144, 1, none⟩ (.int .i64 ((rd_T59 l2 x7_2).f1))).setCell ⟨gb144, 2, none⟩ (.int .i64 ((rd_T59 l2 x7_2).f2))) = w28 at n0_ n1_ ⊢
               have BK144 := n0_
               have HB := n1_
               clear n0_ n1_
               have n0_ := jA (jb BK144.out)
               have n1_ := jA (jI HB.out)
               clear BK144
               clear HB
               have BK144 := n0_
               have HB := n1_
               clear n0_ n1_
               have p147 : 0 ≤ ((ji16) : Int) := jB za
               have q147 : (ji16) < (l2.length : Int) := jB za
               obtain ⟨ad147, e147, hx147_0, hx147_1, hx147_2⟩ := at_T59 HR2.out (ji16) p147 q147
               have hw147_2 := hx147_2
               have hw147_1 := hx147_1
               have hw147_0 := hx147_0
               obtain rfl : ad143 = ad147 := (by injection e147)
               replace hx147_0 := (HB.out.cell (jC w _ hx147_0)).trans hx147_0
               replace hx147_1 := (HB.out.cell (jC w _ hx147_1)).trans hx147_1
               replace hx147_2 := (HB.out.cell (jC w _ hx147_2)).trans hx147_2
               replace p147 := eq_true p147
               replace q147 := eq_true q147
               refine start_ (n := 40) (S := fun w' => w'.cell? ⟨gb144, 0, none⟩ = some (.int .i64 ((rd_T59 l2 x7_2).f0)) ∧ w'.cell? ⟨gb144, 1, none⟩ = some (.int .i64 ((rd_T59 l2 x7_2).f1)) ∧ w'.cell? ⟨gb144, 2, none⟩ = some (.int .i64 ((rd_T59 l2 x7_2).f2)) ∧ w'.cell? (ad143.add (((ji16)).toNat * 3)) = some (.int .i64 ((rd_T59 l2 (ji16)).f0)) ∧ w'.cell? ⟨(ad143.add (((ji16)).toNat * 3)).block, (ad143.add (((ji16)).toNat * 3)).off + 1, none⟩ = some (.int .i64 ((rd_T59 l2 (ji16)).f1)) ∧ w'.cell? ⟨(ad143.add (((ji16)).toNat * 3)).block, (ad143.add (((ji16)).toNat * 3)).off + 2, none⟩ = some (.int .i64 ((rd_T59 l2 (ji16)).f2))) (ds := []) m40_0 zr rfl rfl ⟨(jF BK144.out 0).trans rfl, (jF BK144.out 1).trans rfl, (jF BK144.out 2).trans rfl, ((HB.out.cell (jC w _ hw147_0)).trans hw147_0), ((HB.out.cell (jC w _ hw147_1)).trans hw147_1), ((HB.out.cell (jC w _ hw147_2)).trans hw147_2)⟩ (fun hHeld => ?_); refine with_tabW spec_AreWires.tab7 spec_AreWires.bits7 (fun HT_ HW_ => ?_)
               generalize w28.drew = w29 at BK144 HB hx147_0 hx147_1 hx147_2 hHeld ⊢
               refine zp HT_ 0 27 m40_8000000000 ?_
               refine zp HT_ 2 29 m40_a000000000 ?_
               refine zp HT_ 3 30 m40_b000000000 ?_
               refine zt6 HT_ HW_ hHeld 1 28 m40_f000000000 ?_
               refine one_ (i := 4) (N := some 31) m40_f800000000 rfl rfl (one_of HT_.out zr) (by decide) (fun K hK => ?_)
               refine goes_ Try.func60 zr rfl #[.int .i64 ((rd_T59 l2 x7_2).f0), .int .i64 0, .int .i64 (wrap64 (a1 - 1))] (by rfl) rfl rfl zm ?_
               with_reducible refine (spec_l01In.calls ((rd_T59 l2 x7_2).f0) 0 (wrap64 (a1 - 1)) true _ A11.out).mono ?_
               rintro e w' ⟨rfl, ⟨nd, rfl⟩⟩
               refine ⟨_, rfl, ?_⟩
               refine hK.out _ _ ⟨(jF BK144.out 0).trans rfl, (jF BK144.out 1).trans rfl, (jF BK144.out 2).trans rfl, ((HB.out.cell (jC w _ hw147_0)).trans hw147_0), ((HB.out.cell (jC w _ hw147_1)).trans hw147_1), ((HB.out.cell (jC w _ hw147_2)).trans hw147_2)⟩ (fun hHeld => ?_)
               clear hK K
               refine norm_ (a' := ?_) ?_ ?_
               rotate_left
               ·show Act.put _ (some 31) _ = _
                simp only [Act.put, jO, jT, jU, i64_w, i32_w]
                rfl
               refine zp HT_ 5 32 m40_fc00000000 ?_
               refine zp HT_ 6 33 m40_fe00000000 ?_
               refine zp HT_ 7 34 m40_ff00000000 ?_
               refine zp HT_ 8 35 m40_ff80000000 ?_
               refine zp HT_ 10 37 m40_ffa0000000 ?_
               refine zt6 HT_ HW_ hHeld 9 36 m40_ffe0000000 ?_
               refine zt6 HT_ HW_ hHeld 11 38 m40_fff0000000 ?_
               refine one_ (i := 12) (N := some 39) m40_fff8000000 rfl rfl (one_of HT_.out zr) (by decide) (fun K hK => ?_)
               refine goes_ Try.func90 zr rfl #[.slice A0 l0.length c0, .int .i64 ((rd_T59 l2 x7_2).f1), .int .i64 ((rd_T59 l2 x7_2).f2)] (by rfl) rfl rfl zm ?_
               with_reducible refine (spec_l13Pin.calls _ _ l0 ((rd_T59 l2 x7_2).f1) ((rd_T59 l2 x7_2).f2) true _ ?side1 ?side2 A13.out).mono ?_
               (case side1 => repeat (first | exact HR0.out | exact (Kd.C_below HR0.out (zb1 HB GE144)) | (with_reducible refine jR ?_ _) | (with_reducible refine jQ ?_ _) | (with_reducible refine jS ?_)))
               (case side2 => exact HC0.out)
               rintro e w' ⟨rfl, ⟨nd, rfl⟩⟩
               refine ⟨_, rfl, ?_⟩
               refine hK.out _ _ ⟨(jF BK144.out 0).trans rfl, (jF BK144.out 1).trans rfl, (jF BK144.out 2).trans rfl, ((HB.out.cell (jC w _ hw147_0)).trans hw147_0), ((HB.out.cell (jC w _ hw147_1)).trans hw147_1), ((HB.out.cell (jC w _ hw147_2)).trans hw147_2)⟩ (fun hHeld => ?_)
               clear hK K
               refine norm_ (a' := ?_) ?_ ?_
               rotate_left
               ·show Act.put _ (some 39) _ = _
                simp only [Act.put, jO, jT, jU, i64_w, i32_w]
                rfl
               refine zp HT_ 13 40 m40_fffc000000 ?_
               refine zp HT_ 14 41 m40_fffe000000 ?_
               refine zp HT_ 15 42 m40_ffff000000 ?_
               refine zp HT_ 16 43 m40_ffff800000 ?_
               refine zp HT_ 17 44 m40_ffffc00000 ?_
               refine zp HT_ 18 45 m40_ffffe00000 ?_
               refine zp HT_ 19 46 m40_fffff00000 ?_
               refine zp HT_ 20 47 m40_fffff80000 ?_
               refine zp HT_ 21 48 m40_fffffc0000 ?_
               refine zp HT_ 22 49 m40_fffffe0000 ?_
               refine zp HT_ 23 50 m40_ffffff0000 ?_
               refine zp HT_ 25 52 m40_ffffff4000 ?_
               refine zt6 HT_ HW_ hHeld 24 51 m40_ffffffc000 ?_
               refine zt6 HT_ HW_ hHeld 26 53 m40_ffffffe000 ?_
               refine zp HT_ 27 54 m40_fffffff000 ?_
               refine zp HT_ 28 55 m40_fffffff800 ?_
               refine zp HT_ 29 56 m40_fffffffc00 ?_
               refine zp HT_ 30 57 m40_fffffffe00 ?_
               refine zp HT_ 31 58 m40_ffffffff00 ?_
               refine zp HT_ 32 59 m40_ffffffff80 ?_
               refine zp HT_ 34 61 m40_ffffffffa0 ?_
               refine zp HT_ 37 64 m40_ffffffffa4 ?_
               refine zt6 HT_ HW_ hHeld 33 60 m40_ffffffffe4 ?_
               refine zt6 HT_ HW_ hHeld 35 62 m40_fffffffff4 ?_
               refine one_ (i := 36) (N := some 63) m40_fffffffffc rfl rfl (one_of HT_.out zr) (by decide) (fun K hK => ?_)
               refine goes_ Try.func91 zr rfl #[.slice (some ad143) l2.length c2, .int .i64 ((rd_T59 l2 x7_2).f1), .int .i64 ((rd_T59 l2 x7_2).f2)] (by rfl) rfl rfl zm ?_
               with_reducible refine (spec_l13At.calls k2 _ _ l2 ((rd_T59 l2 x7_2).f1) ((rd_T59 l2 x7_2).f2) t148 _ ?side1 ?side2 A24.out).mono ?_
               (case side1 => repeat (first | exact HR2.out | exact (Kd.C_below HR2.out (zb1 HB GE144)) | (with_reducible refine jR ?_ _) | (with_reducible refine jQ ?_ _) | (with_reducible refine jS ?_)))
               (case side2 => exact HC2.out)
               rintro e w' ⟨rfl, ⟨nd, rfl⟩⟩
               refine ⟨_, rfl, ?_⟩
               refine hK.out _ _ ⟨(jF BK144.out 0).trans rfl, (jF BK144.out 1).trans rfl, (jF BK144.out 2).trans rfl, ((HB.out.cell (jC w _ hw147_0)).trans hw147_0), ((HB.out.cell (jC w _ hw147_1)).trans hw147_1), ((HB.out.cell (jC w _ hw147_2)).trans hw147_2)⟩ (fun hHeld => ?_)
               clear hK K
               refine norm_ (a' := ?_) ?_ ?_
               rotate_left
               ·show Act.put _ (some 63) _ = _
                simp only [Act.put, jO, jT, jU, i64_w, i32_w]
                rfl
               refine zp HT_ 38 65 m40_fffffffffe ?_
               refine zp HT_ 39 66 m40_ffffffffff ?_
               refine done_ (done_of HT_.out zr) ?_
               try go_wp2
               go_roundg k2
               case measure => have := HJ3.out; have := HK2.out; omega
               case rel => exact ⟨(wrap64 (x7_2 + 1)), zz, H', ⟨by have := HJ3.out; have := HK2.out; omega⟩, ⟨zb1 HB GE144⟩⟩
              ·rw [if_neg c25] at H
               have c25b0 : (t148 == x7_2) = false := beq_eq_false_iff_ne.mpr c25
               have c25b1 : (t148 != x7_2) = true := bne_iff_ne.mpr c25
               obtain rfl := jW H
               have p143 : 0 ≤ (x7_2 : Int) := jB za
               have q143 : x7_2 < (l2.length : Int) := jB za
               obtain ⟨ad143, e143, hx143_0, hx143_1, hx143_2⟩ := at_T59 HR2.out x7_2 p143 q143
               cases e143
               replace hx143_0 := (HB.out.cell (jC w _ hx143_0)).trans hx143_0
               replace hx143_1 := (HB.out.cell (jC w _ hx143_1)).trans hx143_1
               replace hx143_2 := (HB.out.cell (jC w _ hx143_2)).trans hx143_2
               replace p143 := eq_true p143
               replace q143 := eq_true q143
               try go_wp2_with (first | ((with_reducible refine gate_dst (N := 8) rfl ?_); refine box_event ?hg (N := 8) ?hd (cs := #[.int .i64 0, .int .i64 0, .int .i64 0]) (t := 59) ?hr ?_; (case hd => rfl); (case hg => rfl); (case hr => first | (go_simp; done) | (go_simp; rfl)); intro gb144 hg w30 hbox hb; have n0_ := jA (jV (zb0 HB) hb); have n1_ := jA (hbox); have n2_ := jA ((by rw [hg]; exact (jY (zb0 HB)) : w.heap.size ≤ gb144)); have n3_ := jA ((by rw [hg]; exact (jY (zb0 HB)) : w.heap.size ≤ gb144)); clear HB; have HB := n0_; have BK144 := n1_; have GW144 := n2_; have GE144 := n3_; clear n0_ n1_ n2_ n3_; clear hb hbox hg; have hcz31_0 : w30.cell? ⟨gb144, 0, none⟩ = some (.int .i64 0) := (jF BK144.out 0).trans rfl; have hcz31_1 : w30.cell? ⟨gb144, 1, none⟩ = some (.int .i64 0) := (jF BK144.out 1).trans rfl; have hcz31_2 : w30.cell? ⟨gb144, 2, none⟩ = some (.int .i64 0) := (jF BK144.out 2).trans rfl; have hfz31_0 := jX BK144.out 0; have hfz31_1 := jX BK144.out 1; have hfz31_2 := jX BK144.out 2))
               have n0_ : Aside0 ((((w30.setCell ⟨gb144, 0, none⟩ (.int .i64 ((rd_T59 l2 x7_2).f0))).setCell ⟨gb144, 1, none⟩ (.int .i64 ((rd_T59 l2 x7_2).f1))).setCell ⟨gb144, 2, none⟩ (.int .i64 ((rd_T59 l2 x7_2).f2))).heap[gb144]? = some (.cells #[.int .i64 ((rd_T59 l2 x7_2).f0), .int .i64 ((rd_T59 l2 x7_2).f1), .int .i64 ((rd_T59 l2 x7_2).f2)] 59 (0, 0))) := ⟨by (with_reducible repeat (first | refine jc ?_ _ | refine jb ?_ | refine jd ?_ _)); refine blk_put (cs := #[.int .i64 ((rd_T59 l2 x7_2).f0), .int .i64 ((rd_T59 l2 x7_2).f1), .int .i64 0]) ?_ 2 _ rfl; (with_reducible repeat (first | refine jc ?_ _ | refine jb ?_ | refine jd ?_ _)); refine blk_put (cs := #[.int .i64 ((rd_T59 l2 x7_2).f0), .int .i64 0, .int .i64 0]) ?_ 1 _ rfl; (with_reducible repeat (first | refine jc ?_ _ | refine jb ?_ | refine jd ?_ _)); refine blk_put (cs := #[.int .i64 0, .int .i64 0, .int .i64 0]) ?_ 0 _ rfl; (with_reducible repeat (first | refine jc ?_ _ | refine jb ?_ | refine jd ?_ _)); exact BK144.out⟩
               have n1_ : Aside0 (Below w.heap.size w (((w30.setCell ⟨gb144, 0, none⟩ (.int .i64 ((rd_T59 l2 x7_2).f0))).setCell ⟨gb144, 1, none⟩ (.int .i64 ((rd_T59 l2 x7_2).f1))).setCell ⟨gb144, 2, none⟩ (.int .i64 ((rd_T59 l2 x7_2).f2)))) := ⟨zb1 HB GE144⟩
               (try clear BK144)
               (try clear HB)
               generalize (((w30.setCell ⟨gb144, 0, none⟩ (.int .i64 ((rd_T59 l2 x7_2).f0))).setCell ⟨gb144, 1, none⟩ (.int .i64 ((rd_T59 l2 x7_2).f1))).setCell ⟨gb144, 2, none⟩ (.int .i64 ((rd_T59 l2 x7_2).f2))) = w32 at n0_ n1_ ⊢
               have BK144 := n0_
               have HB := n1_
               clear n0_ n1_
               have n0_ := jA (jb BK144.out)
               have n1_ := jA (jI HB.out)
               clear BK144
               clear HB
               have BK144 := n0_
               have HB := n1_
               clear n0_ n1_
               have p147 : 0 ≤ ((ji16) : Int) := jB za
               have q147 : (ji16) < (l2.length : Int) := jB za
               obtain ⟨ad147, e147, hx147_0, hx147_1, hx147_2⟩ := at_T59 HR2.out (ji16) p147 q147
               have hw147_2 := hx147_2
               have hw147_1 := hx147_1
               have hw147_0 := hx147_0
               obtain rfl : ad143 = ad147 := (by injection e147)
               replace hx147_0 := (HB.out.cell (jC w _ hx147_0)).trans hx147_0
               replace hx147_1 := (HB.out.cell (jC w _ hx147_1)).trans hx147_1
               replace hx147_2 := (HB.out.cell (jC w _ hx147_2)).trans hx147_2
               replace p147 := eq_true p147
               replace q147 := eq_true q147
               refine start_ (n := 40) (S := fun w' => w'.cell? ⟨gb144, 0, none⟩ = some (.int .i64 ((rd_T59 l2 x7_2).f0)) ∧ w'.cell? ⟨gb144, 1, none⟩ = some (.int .i64 ((rd_T59 l2 x7_2).f1)) ∧ w'.cell? ⟨gb144, 2, none⟩ = some (.int .i64 ((rd_T59 l2 x7_2).f2)) ∧ w'.cell? (ad143.add (((ji16)).toNat * 3)) = some (.int .i64 ((rd_T59 l2 (ji16)).f0)) ∧ w'.cell? ⟨(ad143.add (((ji16)).toNat * 3)).block, (ad143.add (((ji16)).toNat * 3)).off + 1, none⟩ = some (.int .i64 ((rd_T59 l2 (ji16)).f1)) ∧ w'.cell? ⟨(ad143.add (((ji16)).toNat * 3)).block, (ad143.add (((ji16)).toNat * 3)).off + 2, none⟩ = some (.int .i64 ((rd_T59 l2 (ji16)).f2))) (ds := []) m40_0 zr rfl rfl ⟨(jF BK144.out 0).trans rfl, (jF BK144.out 1).trans rfl, (jF BK144.out 2).trans rfl, ((HB.out.cell (jC w _ hw147_0)).trans hw147_0), ((HB.out.cell (jC w _ hw147_1)).trans hw147_1), ((HB.out.cell (jC w _ hw147_2)).trans hw147_2)⟩ (fun hHeld => ?_); refine with_tabW spec_AreWires.tab7 spec_AreWires.bits7 (fun HT_ HW_ => ?_)
               generalize w32.drew = w33 at BK144 HB hx147_0 hx147_1 hx147_2 hHeld ⊢
               refine zp HT_ 0 27 m40_8000000000 ?_
               refine zp HT_ 2 29 m40_a000000000 ?_
               refine zp HT_ 3 30 m40_b000000000 ?_
               refine zt6 HT_ HW_ hHeld 1 28 m40_f000000000 ?_
               refine one_ (i := 4) (N := some 31) m40_f800000000 rfl rfl (one_of HT_.out zr) (by decide) (fun K hK => ?_)
               refine goes_ Try.func60 zr rfl #[.int .i64 ((rd_T59 l2 x7_2).f0), .int .i64 0, .int .i64 (wrap64 (a1 - 1))] (by rfl) rfl rfl zm ?_
               with_reducible refine (spec_l01In.calls ((rd_T59 l2 x7_2).f0) 0 (wrap64 (a1 - 1)) true _ A11.out).mono ?_
               rintro e w' ⟨rfl, ⟨nd, rfl⟩⟩
               refine ⟨_, rfl, ?_⟩
               refine hK.out _ _ ⟨(jF BK144.out 0).trans rfl, (jF BK144.out 1).trans rfl, (jF BK144.out 2).trans rfl, ((HB.out.cell (jC w _ hw147_0)).trans hw147_0), ((HB.out.cell (jC w _ hw147_1)).trans hw147_1), ((HB.out.cell (jC w _ hw147_2)).trans hw147_2)⟩ (fun hHeld => ?_)
               clear hK K
               refine norm_ (a' := ?_) ?_ ?_
               rotate_left
               ·show Act.put _ (some 31) _ = _
                simp only [Act.put, jO, jT, jU, i64_w, i32_w]
                rfl
               refine zp HT_ 5 32 m40_fc00000000 ?_
               refine zp HT_ 6 33 m40_fe00000000 ?_
               refine zp HT_ 7 34 m40_ff00000000 ?_
               refine zp HT_ 8 35 m40_ff80000000 ?_
               refine zp HT_ 10 37 m40_ffa0000000 ?_
               refine zt6 HT_ HW_ hHeld 9 36 m40_ffe0000000 ?_
               refine zt6 HT_ HW_ hHeld 11 38 m40_fff0000000 ?_
               refine one_ (i := 12) (N := some 39) m40_fff8000000 rfl rfl (one_of HT_.out zr) (by decide) (fun K hK => ?_)
               refine goes_ Try.func90 zr rfl #[.slice A0 l0.length c0, .int .i64 ((rd_T59 l2 x7_2).f1), .int .i64 ((rd_T59 l2 x7_2).f2)] (by rfl) rfl rfl zm ?_
               with_reducible refine (spec_l13Pin.calls _ _ l0 ((rd_T59 l2 x7_2).f1) ((rd_T59 l2 x7_2).f2) true _ ?side1 ?side2 A13.out).mono ?_
               (case side1 => repeat (first | exact HR0.out | exact (Kd.C_below HR0.out (zb1 HB GE144)) | (with_reducible refine jR ?_ _) | (with_reducible refine jQ ?_ _) | (with_reducible refine jS ?_)))
               (case side2 => exact HC0.out)
               rintro e w' ⟨rfl, ⟨nd, rfl⟩⟩
               refine ⟨_, rfl, ?_⟩
               refine hK.out _ _ ⟨(jF BK144.out 0).trans rfl, (jF BK144.out 1).trans rfl, (jF BK144.out 2).trans rfl, ((HB.out.cell (jC w _ hw147_0)).trans hw147_0), ((HB.out.cell (jC w _ hw147_1)).trans hw147_1), ((HB.out.cell (jC w _ hw147_2)).trans hw147_2)⟩ (fun hHeld => ?_)
               clear hK K
               refine norm_ (a' := ?_) ?_ ?_
               rotate_left
               ·show Act.put _ (some 39) _ = _
                simp only [Act.put, jO, jT, jU, i64_w, i32_w]
                rfl
               refine zp HT_ 13 40 m40_fffc000000 ?_
               refine zp HT_ 14 41 m40_fffe000000 ?_
               refine zp HT_ 15 42 m40_ffff000000 ?_
               refine zp HT_ 16 43 m40_ffff800000 ?_
               refine zp HT_ 17 44 m40_ffffc00000 ?_
               refine zp HT_ 18 45 m40_ffffe00000 ?_
               refine zp HT_ 19 46 m40_fffff00000 ?_
               refine zp HT_ 20 47 m40_fffff80000 ?_
               refine zp HT_ 21 48 m40_fffffc0000 ?_
               refine zp HT_ 22 49 m40_fffffe0000 ?_
               refine zp HT_ 23 50 m40_ffffff0000 ?_
               refine zp HT_ 25 52 m40_ffffff4000 ?_
               refine zt6 HT_ HW_ hHeld 24 51 m40_ffffffc000 ?_
               refine zt6 HT_ HW_ hHeld 26 53 m40_ffffffe000 ?_
               refine zp HT_ 27 54 m40_fffffff000 ?_
               refine zp HT_ 28 55 m40_fffffff800 ?_
               refine zp HT_ 29 56 m40_fffffffc00 ?_
               refine zp HT_ 30 57 m40_fffffffe00 ?_
               refine zp HT_ 31 58 m40_ffffffff00 ?_
               refine zp HT_ 32 59 m40_ffffffff80 ?_
               refine zp HT_ 34 61 m40_ffffffffa0 ?_
               refine zp HT_ 37 64 m40_ffffffffa4 ?_
               refine zt6 HT_ HW_ hHeld 33 60 m40_ffffffffe4 ?_
               refine zt6 HT_ HW_ hHeld 35 62 m40_fffffffff4 ?_
               refine one_ (i := 36) (N := some 63) m40_fffffffffc rfl rfl (one_of HT_.out zr) (by decide) (fun K hK => ?_)
               refine goes_ Try.func91 zr rfl #[.slice (some ad143) l2.length c2, .int .i64 ((rd_T59 l2 x7_2).f1), .int .i64 ((rd_T59 l2 x7_2).f2)] (by rfl) rfl rfl zm ?_
               with_reducible refine (spec_l13At.calls k2 _ _ l2 ((rd_T59 l2 x7_2).f1) ((rd_T59 l2 x7_2).f2) t148 _ ?side1 ?side2 A24.out).mono ?_
               (case side1 => repeat (first | exact HR2.out | exact (Kd.C_below HR2.out (zb1 HB GE144)) | (with_reducible refine jR ?_ _) | (with_reducible refine jQ ?_ _) | (with_reducible refine jS ?_)))
               (case side2 => exact HC2.out)
               rintro e w' ⟨rfl, ⟨nd, rfl⟩⟩
               refine ⟨_, rfl, ?_⟩
               refine hK.out _ _ ⟨(jF BK144.out 0).trans rfl, (jF BK144.out 1).trans rfl, (jF BK144.out 2).trans rfl, ((HB.out.cell (jC w _ hw147_0)).trans hw147_0), ((HB.out.cell (jC w _ hw147_1)).trans hw147_1), ((HB.out.cell (jC w _ hw147_2)).trans hw147_2)⟩ (fun hHeld => ?_)
               clear hK K
               refine norm_ (a' := ?_) ?_ ?_
               rotate_left
               ·show Act.put _ (some 63) _ = _
                simp only [Act.put, jO, jT, jU, i64_w, i32_w]
                rfl
               refine zp HT_ 38 65 m40_fffffffffe ?_
               refine zp HT_ 39 66 m40_ffffffffff ?_
               refine done_ (done_of HT_.out zr) ?_
               try go_wp2
               go_ret
               exact ⟨by first | rfl | (simp [errW_none, errW_some] <;> rfl) | (simp only [← hji16]; first | rfl | (simp [errW_none, errW_some] <;> rfl)) | (simp [*, errW_none, errW_some] <;> rfl), zb1 HB GE144⟩
            ·rw [if_neg c18] at H
             exact absurd H (by simp)
           ·rw [if_neg c17] at H
            exact absurd H (by simp)
          ·rw [if_neg c15] at H
           have c15b0 : decide (0 < x7_2) = false := ja c15
           clear c15
           replace H := jD.mp H
           obtain ⟨t149, A340, H⟩ := H
           replace H : (if t149 = x7_2 then (spec_AreWires.l0 k2 l0 a1 l2 (wrap64 (x7_2 + 1))) else (some false)) = some r := H
           have A34 := jA A340
           clear A340
           by_cases c35 : t149 = x7_2
           ·rw [if_pos c35] at H
            have c35b0 : (t149 == x7_2) = true := beq_iff_eq.mpr c35
            have c35b1 : (t149 != x7_2) = false := bne_eq_false_iff_eq.mpr c35
            clear c35
            have H' := jA H
            clear H
            have p143 : 0 ≤ (x7_2 : Int) := jB za
            have q143 : x7_2 < (l2.length : Int) := jB za
            obtain ⟨ad143, e143, hx143_0, hx143_1, hx143_2⟩ := at_T59 HR2.out x7_2 p143 q143
            cases e143
            replace hx143_0 := (HB.out.cell (jC w _ hx143_0)).trans hx143_0
            replace hx143_1 := (HB.out.cell (jC w _ hx143_1)).trans hx143_1
            replace hx143_2 := (HB.out.cell (jC w _ hx143_2)).trans hx143_2
            replace p143 := eq_true p143
            replace q143 := eq_true q143
            try go_wp2_with (first | ((with_reducible refine gate_dst (N := 8) rfl ?_); refine box_event ?hg (N := 8) ?hd (cs := #[.int .i64 0, .int .i64 0, .int .i64 0]) (t := 59) ?hr ?_; (case hd => rfl); (case hg => rfl); (case hr => first | (go_simp; done) | (go_simp; rfl)); intro gb144 hg w36 hbox hb; have n0_ := jA (jV (zb0 HB) hb); have n1_ := jA (hbox); have n2_ := jA ((by rw [hg]; exact (jY (zb0 HB)) : w.heap.size ≤ gb144)); have n3_ := jA ((by rw [hg]; exact (jY (zb0 HB)) : w.heap.size ≤ gb144)); clear HB; have HB := n0_; have BK144 := n1_; have GW144 := n2_; have GE144 := n3_; clear n0_ n1_ n2_ n3_; clear hb hbox hg; have hcz37_0 : w36.cell? ⟨gb144, 0, none⟩ = some (.int .i64 0) := (jF BK144.out 0).trans rfl; have hcz37_1 : w36.cell? ⟨gb144, 1, none⟩ = some (.int .i64 0) := (jF BK144.out 1).trans rfl; have hcz37_2 : w36.cell? ⟨gb144, 2, none⟩ = some (.int .i64 0) := (jF BK144.out 2).trans rfl; have hfz37_0 := jX BK144.out 0; have hfz37_1 := jX BK144.out 1; have hfz37_2 := jX BK144.out 2))
            have n0_ : Aside0 ((((w36.setCell ⟨gb144, 0, none⟩ (.int .i64 ((rd_T59 l2 x7_2).f0))).setCell ⟨gb144, 1, none⟩ (.int .i64 ((rd_T59 l2 x7_2).f1))).setCell ⟨gb144, 2, none⟩ (.int .i64 ((rd_T59 l2 x7_2).f2))).heap[gb144]? = some (.cells #[.int .i64 ((rd_T59 l2 x7_2).f0), .int .i64 ((rd_T59 l2 x7_2).f1), .int .i64 ((rd_T59 l2 x7_2).f2)] 59 (0, 0))) := ⟨by (with_reducible repeat (first | refine jc ?_ _ | refine jb ?_ | refine jd ?_ _)); refine blk_put (cs := #[.int .i64 ((rd_T59 l2 x7_2).f0), .int .i64 ((rd_T59 l2 x7_2).f1), .int .i64 0]) ?_ 2 _ rfl; (with_reducible repeat (first | refine jc ?_ _ | refine jb ?_ | refine jd ?_ _)); refine blk_put (cs := #[.int .i64 ((rd_T59 l2 x7_2).f0), .int .i64 0, .int .i64 0]) ?_ 1 _ rfl; (with_reducible repeat (first | refine jc ?_ _ | refine jb ?_ | refine jd ?_ _)); refine blk_put (cs := #[.int .i64 0, .int .i64 0, .int .i64 0]) ?_ 0 _ rfl; (with_reducible repeat (first | refine jc ?_ _ | refine jb ?_ | refine jd ?_ _)); exact BK144.out⟩
            have n1_ : Aside0 (Below w.heap.size w (((w36.setCell ⟨gb144, 0, none⟩ (.int .i64 ((rd_T59 l2 x7_2).f0))).setCell ⟨gb144, 1, none⟩ (.int .i64 ((rd_T59 l2 x7_2).f1))).setCell ⟨gb144, 2, none⟩ (.int .i64 ((rd_T59 l2 x7_2).f2)))) := ⟨zb1 HB GE144⟩
            (try clear BK144)
            (try clear HB)
            generalize (((w36.setCell ⟨gb144, 0, none⟩ (.int .i64 ((rd_T59 l2 x7_2).f0))).setCell ⟨gb144, 1, none⟩ (.int .i64 ((rd_T59 l2 x7_2).f1))).setCell ⟨gb144, 2, none⟩ (.int .i64 ((rd_T59 l2 x7_2).f2))) = w38 at n0_ n1_ ⊢
            have BK144 := n0_
            have HB := n1_
            clear n0_ n1_
            have n0_ := jA (jb BK144.out)
            have n1_ := jA (jI HB.out)
            clear BK144
            clear HB
            have BK144 := n0_
            have HB := n1_
            clear n0_ n1_
            refine start_ (n := 40) (S := fun w' => w'.cell? ⟨gb144, 0, none⟩ = some (.int .i64 ((rd_T59 l2 x7_2).f0)) ∧ w'.cell? ⟨gb144, 1, none⟩ = some (.int .i64 ((rd_T59 l2 x7_2).f1)) ∧ w'.cell? ⟨gb144, 2, none⟩ = some (.int .i64 ((rd_T59 l2 x7_2).f2))) (ds := []) m40_0 zr rfl rfl ⟨(jF BK144.out 0).trans rfl, (jF BK144.out 1).trans rfl, (jF BK144.out 2).trans rfl⟩ (fun hHeld => ?_); refine with_tabW spec_AreWires.tab7 spec_AreWires.bits7 (fun HT_ HW_ => ?_)
            generalize w38.drew = w39 at BK144 HB hHeld ⊢
            refine zp HT_ 0 27 m40_8000000000 ?_
            refine zp HT_ 2 29 m40_a000000000 ?_
            refine zp HT_ 3 30 m40_b000000000 ?_
            refine zt3 HT_ HW_ hHeld 1 28 m40_f000000000 ?_
            refine one_ (i := 4) (N := some 31) m40_f800000000 rfl rfl (one_of HT_.out zr) (by decide) (fun K hK => ?_)
            refine goes_ Try.func60 zr rfl #[.int .i64 ((rd_T59 l2 x7_2).f0), .int .i64 0, .int .i64 (wrap64 (a1 - 1))] (by rfl) rfl rfl zm ?_
            with_reducible refine (spec_l01In.calls ((rd_T59 l2 x7_2).f0) 0 (wrap64 (a1 - 1)) true _ A11.out).mono ?_
            rintro e w' ⟨rfl, ⟨nd, rfl⟩⟩
            refine ⟨_, rfl, ?_⟩
            refine hK.out _ _ ⟨(jF BK144.out 0).trans rfl, (jF BK144.out 1).trans rfl, (jF BK144.out 2).trans rfl⟩ (fun hHeld => ?_)
            clear hK K
            refine norm_ (a' := ?_) ?_ ?_
            rotate_left
            ·show Act.put _ (some 31) _ = _
             simp only [Act.put, jO, jT, jU, i64_w, i32_w]
             rfl
            refine zp HT_ 5 32 m40_fc00000000 ?_
            refine zp HT_ 6 33 m40_fe00000000 ?_
            refine zp HT_ 7 34 m40_ff00000000 ?_
            refine zp HT_ 8 35 m40_ff80000000 ?_
            refine zp HT_ 10 37 m40_ffa0000000 ?_
            refine zt3 HT_ HW_ hHeld 9 36 m40_ffe0000000 ?_
            refine zt3 HT_ HW_ hHeld 11 38 m40_fff0000000 ?_
            refine one_ (i := 12) (N := some 39) m40_fff8000000 rfl rfl (one_of HT_.out zr) (by decide) (fun K hK => ?_)
            refine goes_ Try.func90 zr rfl #[.slice A0 l0.length c0, .int .i64 ((rd_T59 l2 x7_2).f1), .int .i64 ((rd_T59 l2 x7_2).f2)] (by rfl) rfl rfl zm ?_
            with_reducible refine (spec_l13Pin.calls _ _ l0 ((rd_T59 l2 x7_2).f1) ((rd_T59 l2 x7_2).f2) true _ ?side1 ?side2 A13.out).mono ?_
            (case side1 => repeat (first | exact HR0.out | exact (Kd.C_below HR0.out (zb1 HB GE144)) | (with_reducible refine jR ?_ _) | (with_reducible refine jQ ?_ _) | (with_reducible refine jS ?_)))
            (case side2 => exact HC0.out)
            rintro e w' ⟨rfl, ⟨nd, rfl⟩⟩
            refine ⟨_, rfl, ?_⟩
            refine hK.out _ _ ⟨(jF BK144.out 0).trans rfl, (jF BK144.out 1).trans rfl, (jF BK144.out 2).trans rfl⟩ (fun hHeld => ?_)
            clear hK K
            refine norm_ (a' := ?_) ?_ ?_
            rotate_left
            ·show Act.put _ (some 39) _ = _
             simp only [Act.put, jO, jT, jU, i64_w, i32_w]
             rfl
            refine zp HT_ 13 40 m40_fffc000000 ?_
            refine zp HT_ 14 41 m40_fffe000000 ?_
            refine zp HT_ 15 42 m40_ffff000000 ?_
            refine zp HT_ 16 43 m40_ffff800000 ?_
            refine zp HT_ 17 44 m40_ffffc00000 ?_
            refine zp HT_ 18 45 m40_ffffe00000 ?_
            refine zq HT_ 19 46 m40_fffff00000 ?_
            refine zq HT_ 20 47 m40_fffff80000 ?_
            refine zq HT_ 21 48 m40_fffffc0000 ?_
            refine zq HT_ 22 49 m40_fffffe0000 ?_
            refine zq HT_ 23 50 m40_ffffff0000 ?_
            refine zq HT_ 24 51 m40_ffffff8000 ?_
            refine zq HT_ 25 52 m40_ffffffc000 ?_
            refine zq HT_ 26 53 m40_ffffffe000 ?_
            refine zq HT_ 27 54 m40_fffffff000 ?_
            refine zp HT_ 28 55 m40_fffffff800 ?_
            refine zp HT_ 29 56 m40_fffffffc00 ?_
            refine zp HT_ 30 57 m40_fffffffe00 ?_
            refine zp HT_ 31 58 m40_ffffffff00 ?_
            refine zp HT_ 32 59 m40_ffffffff80 ?_
            refine zp HT_ 34 61 m40_ffffffffa0 ?_
            refine zp HT_ 37 64 m40_ffffffffa4 ?_
            refine zt3 HT_ HW_ hHeld 33 60 m40_ffffffffe4 ?_
            refine zt3 HT_ HW_ hHeld 35 62 m40_fffffffff4 ?_
            refine one_ (i := 36) (N := some 63) m40_fffffffffc rfl rfl (one_of HT_.out zr) (by decide) (fun K hK => ?_)
            refine goes_ Try.func91 zr rfl #[.slice (some ad143) l2.length c2, .int .i64 ((rd_T59 l2 x7_2).f1), .int .i64 ((rd_T59 l2 x7_2).f2)] (by rfl) rfl rfl zm ?_
            with_reducible refine (spec_l13At.calls k2 _ _ l2 ((rd_T59 l2 x7_2).f1) ((rd_T59 l2 x7_2).f2) t149 _ ?side1 ?side2 A34.out).mono ?_
            (case side1 => repeat (first | exact HR2.out | exact (Kd.C_below HR2.out (zb1 HB GE144)) | (with_reducible refine jR ?_ _) | (with_reducible refine jQ ?_ _) | (with_reducible refine jS ?_)))
            (case side2 => exact HC2.out)
            rintro e w' ⟨rfl, ⟨nd, rfl⟩⟩
            refine ⟨_, rfl, ?_⟩
            refine hK.out _ _ ⟨(jF BK144.out 0).trans rfl, (jF BK144.out 1).trans rfl, (jF BK144.out 2).trans rfl⟩ (fun hHeld => ?_)
            clear hK K
            refine norm_ (a' := ?_) ?_ ?_
            rotate_left
            ·show Act.put _ (some 63) _ = _
             simp only [Act.put, jO, jT, jU, i64_w, i32_w]
             rfl
            refine zp HT_ 38 65 m40_fffffffffe ?_
            refine zp HT_ 39 66 m40_ffffffffff ?_
            refine done_ (done_of HT_.out zr) ?_
            try go_wp2
            go_roundg k2
            case measure => have := HJ3.out; have := HK2.out; omega
            case rel => exact ⟨(wrap64 (x7_2 + 1)), zz, H', ⟨by have := HJ3.out; have := HK2.out; omega⟩, ⟨zb1 HB GE144⟩⟩
           ·rw [if_neg c35] at H
            have c35b0 : (t149 == x7_2) = false := beq_eq_false_iff_ne.mpr c35
            have c35b1 : (t149 != x7_2) = true := bne_iff_ne.mpr c35
            obtain rfl := jW H
            have p143 : 0 ≤ (x7_2 : Int) := jB za
            have q143 : x7_2 < (l2.length : Int) := jB za
            obtain ⟨ad143, e143, hx143_0, hx143_1, hx143_2⟩ := at_T59 HR2.out x7_2 p143 q143
            cases e143
            replace hx143_0 := (HB.out.cell (jC w _ hx143_0)).trans hx143_0
            replace hx143_1 := (HB.out.cell (jC w _ hx143_1)).trans hx143_1
            replace hx143_2 := (HB.out.cell (jC w _ hx143_2)).trans hx143_2
            replace p143 := eq_true p143
            replace q143 := eq_true q143
            try go_wp2_with (first | ((with_reducible refine gate_dst (N := 8) rfl ?_); refine box_event ?hg (N := 8) ?hd (cs := #[.int .i64 0, .int .i64 0, .int .i64 0]) (t := 59) ?hr ?_; (case hd => rfl); (case hg => rfl); (case hr => first | (go_simp; done) | (go_simp; rfl)); intro gb144 hg w40 hbox hb; have n0_ := jA (jV (zb0 HB) hb); have n1_ := jA (hbox); have n2_ := jA ((by rw [hg]; exact (jY (zb0 HB)) : w.heap.size ≤ gb144)); have n3_ := jA ((by rw [hg]; exact (jY (zb0 HB)) : w.heap.size ≤ gb144)); clear HB; have HB := n0_; have BK144 := n1_; have GW144 := n2_; have GE144 := n3_; clear n0_ n1_ n2_ n3_; clear hb hbox hg; have hcz41_0 : w40.cell? ⟨gb144, 0, none⟩ = some (.int .i64 0) := (jF BK144.out 0).trans rfl; have hcz41_1 : w40.cell? ⟨gb144, 1, none⟩ = some (.int .i64 0) := (jF BK144.out 1).trans rfl; have hcz41_2 : w40.cell? ⟨gb144, 2, none⟩ = some (.int .i64 0) := (jF BK144.out 2).trans rfl; have hfz41_0 := jX BK144.out 0; have hfz41_1 := jX BK144.out 1; have hfz41_2 := jX BK144.out 2))
            have n0_ : Aside0 ((((w40.setCell ⟨gb144, 0, none⟩ (.int .i64 ((rd_T59 l2 x7_2).f0))).setCell ⟨gb144, 1, none⟩ (.int .i64 ((rd_T59 l2 x7_2).f1))).setCell ⟨gb144, 2, none⟩ (.int .i64 ((rd_T59 l2 x7_2).f2))).heap[gb144]? = some (.cells #[.int .i64 ((rd_T59 l2 x7_2).f0), .int .i64 ((rd_T59 l2 x7_2).f1), .int .i64 ((rd_T59 l2 x7_2).f2)] 59 (0, 0))) := ⟨by (with_reducible repeat (first | refine jc ?_ _ | refine jb ?_ | refine jd ?_ _)); refine blk_put (cs := #[.int .i64 ((rd_T59 l2 x7_2).f0), .int .i64 ((rd_T59 l2 x7_2).f1), .int .i64 0]) ?_ 2 _ rfl; (with_reducible repeat (first | refine jc ?_ _ | refine jb ?_ | refine jd ?_ _)); refine blk_put (cs := #[.int .i64 ((rd_T59 l2 x7_2).f0), .int .i64 0, .int .i64 0]) ?_ 1 _ rfl; (with_reducible repeat (first | refine jc ?_ _ | refine jb ?_ | refine jd ?_ _)); refine blk_put (cs := #[.int .i64 0, .int .i64 0, .int .i64 0]) ?_ 0 _ rfl; (with_reducible repeat (first | refine jc ?_ _ | refine jb ?_ | refine jd ?_ _)); exact BK144.out⟩
            have n1_ : Aside0 (Below w.heap.size w (((w40.setCell ⟨gb144, 0, none⟩ (.int .i64 ((rd_T59 l2 x7_2).f0))).setCell ⟨gb144, 1, none⟩ (.int .i64 ((rd_T59 l2 x7_2).f1))).setCell ⟨gb144, 2, none⟩ (.int .i64 ((rd_T59 l2 x7_2).f2)))) := ⟨zb1 HB GE144⟩
            (try clear BK144)
            (try clear HB)
            generalize (((w40.setCell ⟨gb144, 0, none⟩ (.int .i64 ((rd_T59 l2 x7_2).f0))).setCell ⟨gb144, 1, none⟩ (.int .i64 ((rd_T59 l2 x7_2).f1))).setCell ⟨gb144, 2, none⟩ (.int .i64 ((rd_T59 l2 x7_2).f2))) = w42 at n0_ n1_ ⊢
            have BK144 := n0_
            have HB := n1_
            clear n0_ n1_
            have n0_ := jA (jb BK144.out)
            have n1_ := jA (jI HB.out)
            clear BK144
            clear HB
            have BK144 := n0_
            have HB := n1_
            clear n0_ n1_
            refine start_ (n := 40) (S := fun w' => w'.cell? ⟨gb144, 0, none⟩ = some (.int .i64 ((rd_T59 l2 x7_2).f0)) ∧ w'.cell? ⟨gb144, 1, none⟩ = some (.int .i64 ((rd_T59 l2 x7_2).f1)) ∧ w'.cell? ⟨gb144, 2, none⟩ = some (.int .i64 ((rd_T59 l2 x7_2).f2))) (ds := []) m40_0 zr rfl rfl ⟨(jF BK144.out 0).trans rfl, (jF BK144.out 1).trans rfl, (jF BK144.out 2).trans rfl⟩ (fun hHeld => ?_); refine with_tabW spec_AreWires.tab7 spec_AreWires.bits7 (fun HT_ HW_ => ?_)
            generalize w42.drew = w43 at BK144 HB hHeld ⊢
            refine zp HT_ 0 27 m40_8000000000 ?_
            refine zp HT_ 2 29 m40_a000000000 ?_
            refine zp HT_ 3 30 m40_b000000000 ?_
            refine zt3 HT_ HW_ hHeld 1 28 m40_f000000000 ?_
            refine one_ (i := 4) (N := some 31) m40_f800000000 rfl rfl (one_of HT_.out zr) (by decide) (fun K hK => ?_)
            refine goes_ Try.func60 zr rfl #[.int .i64 ((rd_T59 l2 x7_2).f0), .int .i64 0, .int .i64 (wrap64 (a1 - 1))] (by rfl) rfl rfl zm ?_
            with_reducible refine (spec_l01In.calls ((rd_T59 l2 x7_2).f0) 0 (wrap64 (a1 - 1)) true _ A11.out).mono ?_
            rintro e w' ⟨rfl, ⟨nd, rfl⟩⟩
            refine ⟨_, rfl, ?_⟩
            refine hK.out _ _ ⟨(jF BK144.out 0).trans rfl, (jF BK144.out 1).trans rfl, (jF BK144.out 2).trans rfl⟩ (fun hHeld => ?_)
            clear hK K
            refine norm_ (a' := ?_) ?_ ?_
            rotate_left
            ·show Act.put _ (some 31) _ = _
             simp only [Act.put, jO, jT, jU, i64_w, i32_w]
             rfl
            refine zp HT_ 5 32 m40_fc00000000 ?_
            refine zp HT_ 6 33 m40_fe00000000 ?_
            refine zp HT_ 7 34 m40_ff00000000 ?_
            refine zp HT_ 8 35 m40_ff80000000 ?_
            refine zp HT_ 10 37 m40_ffa0000000 ?_
            refine zt3 HT_ HW_ hHeld 9 36 m40_ffe0000000 ?_
            refine zt3 HT_ HW_ hHeld 11 38 m40_fff0000000 ?_
            refine one_ (i := 12) (N := some 39) m40_fff8000000 rfl rfl (one_of HT_.out zr) (by decide) (fun K hK => ?_)
            refine goes_ Try.func90 zr rfl #[.slice A0 l0.length c0, .int .i64 ((rd_T59 l2 x7_2).f1), .int .i64 ((rd_T59 l2 x7_2).f2)] (by rfl) rfl rfl zm ?_
            with_reducible refine (spec_l13Pin.calls _ _ l0 ((rd_T59 l2 x7_2).f1) ((rd_T59 l2 x7_2).f2) true _ ?side1 ?side2 A13.out).mono ?_
            (case side1 => repeat (first | exact HR0.out | exact (Kd.C_below HR0.out (zb1 HB GE144)) | (with_reducible refine jR ?_ _) | (with_reducible refine jQ ?_ _) | (with_reducible refine jS ?_)))
            (case side2 => exact HC0.out)
            rintro e w' ⟨rfl, ⟨nd, rfl⟩⟩
            refine ⟨_, rfl, ?_⟩
            refine hK.out _ _ ⟨(jF BK144.out 0).trans rfl, (jF BK144.out 1).trans rfl, (jF BK144.out 2).trans rfl⟩ (fun hHeld => ?_)
            clear hK K
            refine norm_ (a' := ?_) ?_ ?_
            rotate_left
            ·show Act.put _ (some 39) _ = _
             simp only [Act.put, jO, jT, jU, i64_w, i32_w]
             rfl
            refine zp HT_ 13 40 m40_fffc000000 ?_
            refine zp HT_ 14 41 m40_fffe000000 ?_
            refine zp HT_ 15 42 m40_ffff000000 ?_
            refine zp HT_ 16 43 m40_ffff800000 ?_
            refine zp HT_ 17 44 m40_ffffc00000 ?_
            refine zp HT_ 18 45 m40_ffffe00000 ?_
            refine zq HT_ 19 46 m40_fffff00000 ?_
            refine zq HT_ 20 47 m40_fffff80000 ?_
            refine zq HT_ 21 48 m40_fffffc0000 ?_
            refine zq HT_ 22 49 m40_fffffe0000 ?_
            refine zq HT_ 23 50 m40_ffffff0000 ?_
            refine zq HT_ 24 51 m40_ffffff8000 ?_
            refine zq HT_ 25 52 m40_ffffffc000 ?_
            refine zq HT_ 26 53 m40_ffffffe000 ?_
            refine zq HT_ 27 54 m40_fffffff000 ?_
            refine zp HT_ 28 55 m40_fffffff800 ?_
            refine zp HT_ 29 56 m40_fffffffc00 ?_
            refine zp HT_ 30 57 m40_fffffffe00 ?_
            refine zp HT_ 31 58 m40_ffffffff00 ?_
            refine zp HT_ 32 59 m40_ffffffff80 ?_
            refine zp HT_ 34 61 m40_ffffffffa0 ?_
            refine zp HT_ 37 64 m40_ffffffffa4 ?_
            refine zt3 HT_ HW_ hHeld 33 60 m40_ffffffffe4 ?_
            refine zt3 HT_ HW_ hHeld 35 62 m40_fffffffff4 ?_
            refine one_ (i := 36) (N := some 63) m40_fffffffffc rfl rfl (one_of HT_.out zr) (by decide) (fun K hK => ?_)
            refine goes_ Try.func91 zr rfl #[.slice (some ad143) l2.length c2, .int .i64 ((rd_T59 l2 x7_2).f1), .int .i64 ((rd_T59 l2 x7_2).f2)] (by rfl) rfl rfl zm ?_
            with_reducible refine (spec_l13At.calls k2 _ _ l2 ((rd_T59 l2 x7_2).f1) ((rd_T59 l2 x7_2).f2) t149 _ ?side1 ?side2 A34.out).mono ?_
            (case side1 => repeat (first | exact HR2.out | exact (Kd.C_below HR2.out (zb1 HB GE144)) | (with_reducible refine jR ?_ _) | (with_reducible refine jQ ?_ _) | (with_reducible refine jS ?_)))
            (case side2 => exact HC2.out)
            rintro e w' ⟨rfl, ⟨nd, rfl⟩⟩
            refine ⟨_, rfl, ?_⟩
            refine hK.out _ _ ⟨(jF BK144.out 0).trans rfl, (jF BK144.out 1).trans rfl, (jF BK144.out 2).trans rfl⟩ (fun hHeld => ?_)
            clear hK K
            refine norm_ (a' := ?_) ?_ ?_
            rotate_left
            ·show Act.put _ (some 63) _ = _
             simp only [Act.put, jO, jT, jU, i64_w, i32_w]
             rfl
            refine zp HT_ 38 65 m40_fffffffffe ?_
            refine zp HT_ 39 66 m40_ffffffffff ?_
            refine done_ (done_of HT_.out zr) ?_
            try go_wp2
            go_ret
            exact ⟨by first | rfl | (simp [errW_none, errW_some] <;> rfl) | (simp [*, errW_none, errW_some] <;> rfl), zb1 HB GE144⟩
         ·replace c14 := Bool.eq_false_iff.mpr c14
          subst c14
          have H1 : (some false) = some r := by rw [if_neg (show ¬ (false = true) by decide)] at H; exact H
          clear H
          have H := H1
          clear H1
          obtain rfl := jW H
          have p143 : 0 ≤ (x7_2 : Int) := jB za
          have q143 : x7_2 < (l2.length : Int) := jB za
          obtain ⟨ad143, e143, hx143_0, hx143_1, hx143_2⟩ := at_T59 HR2.out x7_2 p143 q143
          cases e143
          replace hx143_0 := (HB.out.cell (jC w _ hx143_0)).trans hx143_0
          replace hx143_1 := (HB.out.cell (jC w _ hx143_1)).trans hx143_1
          replace hx143_2 := (HB.out.cell (jC w _ hx143_2)).trans hx143_2
          replace p143 := eq_true p143
          replace q143 := eq_true q143
          try go_wp2_with (first | ((with_reducible refine gate_dst (N := 8) rfl ?_); refine box_event ?hg (N := 8) ?hd (cs := #[.int .i64 0, .int .i64 0, .int .i64 0]) (t := 59) ?hr ?_; (case hd => rfl); (case hg => rfl); (case hr => first | (go_simp; done) | (go_simp; rfl)); intro gb144 hg w44 hbox hb; have n0_ := jA (jV (zb0 HB) hb); have n1_ := jA (hbox); have n2_ := jA ((by rw [hg]; exact (jY (zb0 HB)) : w.heap.size ≤ gb144)); have n3_ := jA ((by rw [hg]; exact (jY (zb0 HB)) : w.heap.size ≤ gb144)); clear HB; have HB := n0_; have BK144 := n1_; have GW144 := n2_; have GE144 := n3_; clear n0_ n1_ n2_ n3_; clear hb hbox hg; have hcz45_0 : w44.cell? ⟨gb144, 0, none⟩ = some (.int .i64 0) := (jF BK144.out 0).trans rfl; have hcz45_1 : w44.cell? ⟨gb144, 1, none⟩ = some (.int .i64 0) := (jF BK144.out 1).trans rfl; have hcz45_2 : w44.cell? ⟨gb144, 2, none⟩ = some (.int .i64 0) := (jF BK144.out 2).trans rfl; have hfz45_0 := jX BK144.out 0; have hfz45_1 := jX BK144.out 1; have hfz45_2 := jX BK144.out 2))
          have n0_ : Aside0 ((((w44.setCell ⟨gb144, 0, none⟩ (.int .i64 ((rd_T59 l2 x7_2).f0))).setCell ⟨gb144, 1, none⟩ (.int .i64 ((rd_T59 l2 x7_2).f1))).setCell ⟨gb144, 2, none⟩ (.int .i64 ((rd_T59 l2 x7_2).f2))).heap[gb144]? = some (.cells #[.int .i64 ((rd_T59 l2 x7_2).f0), .int .i64 ((rd_T59 l2 x7_2).f1), .int .i64 ((rd_T59 l2 x7_2).f2)] 59 (0, 0))) := ⟨by (with_reducible repeat (first | refine jc ?_ _ | refine jb ?_ | refine jd ?_ _)); refine blk_put (cs := #[.int .i64 ((rd_T59 l2 x7_2).f0), .int .i64 ((rd_T59 l2 x7_2).f1), .int .i64 0]) ?_ 2 _ rfl; (with_reducible repeat (first | refine jc ?_ _ | refine jb ?_ | refine jd ?_ _)); refine blk_put (cs := #[.int .i64 ((rd_T59 l2 x7_2).f0), .int .i64 0, .int .i64 0]) ?_ 1 _ rfl; (with_reducible repeat (first | refine jc ?_ _ | refine jb ?_ | refine jd ?_ _)); refine blk_put (cs := #[.int .i64 0, .int .i64 0, .int .i64 0]) ?_ 0 _ rfl; (with_reducible repeat (first | refine jc ?_ _ | refine jb ?_ | refine jd ?_ _)); exact BK144.out⟩
          have n1_ : Aside0 (Below w.heap.size w (((w44.setCell ⟨gb144, 0, none⟩ (.int .i64 ((rd_T59 l2 x7_2).f0))).setCell ⟨gb144, 1, none⟩ (.int .i64 ((rd_T59 l2 x7_2).f1))).setCell ⟨gb144, 2, none⟩ (.int .i64 ((rd_T59 l2 x7_2).f2)))) := ⟨zb1 HB GE144⟩
          (try clear BK144)
          (try clear HB)
          generalize (((w44.setCell ⟨gb144, 0, none⟩ (.int .i64 ((rd_T59 l2 x7_2).f0))).setCell ⟨gb144, 1, none⟩ (.int .i64 ((rd_T59 l2 x7_2).f1))).setCell ⟨gb144, 2, none⟩ (.int .i64 ((rd_T59 l2 x7_2).f2))) = w46 at n0_ n1_ ⊢
          have BK144 := n0_
          have HB := n1_
          clear n0_ n1_
          have n0_ := jA (jb BK144.out)
          have n1_ := jA (jI HB.out)
          clear BK144
          clear HB
          have BK144 := n0_
          have HB := n1_
          clear n0_ n1_
          refine start_ (n := 40) (S := fun w' => w'.cell? ⟨gb144, 0, none⟩ = some (.int .i64 ((rd_T59 l2 x7_2).f0)) ∧ w'.cell? ⟨gb144, 1, none⟩ = some (.int .i64 ((rd_T59 l2 x7_2).f1)) ∧ w'.cell? ⟨gb144, 2, none⟩ = some (.int .i64 ((rd_T59 l2 x7_2).f2))) (ds := []) m40_0 zr rfl rfl ⟨(jF BK144.out 0).trans rfl, (jF BK144.out 1).trans rfl, (jF BK144.out 2).trans rfl⟩ (fun hHeld => ?_); refine with_tabW spec_AreWires.tab7 spec_AreWires.bits7 (fun HT_ HW_ => ?_)
          generalize w46.drew = w47 at BK144 HB hHeld ⊢
          refine zp HT_ 0 27 m40_8000000000 ?_
          refine zp HT_ 2 29 m40_a000000000 ?_
          refine zp HT_ 3 30 m40_b000000000 ?_
          refine zt3 HT_ HW_ hHeld 1 28 m40_f000000000 ?_
          refine one_ (i := 4) (N := some 31) m40_f800000000 rfl rfl (one_of HT_.out zr) (by decide) (fun K hK => ?_)
          refine goes_ Try.func60 zr rfl #[.int .i64 ((rd_T59 l2 x7_2).f0), .int .i64 0, .int .i64 (wrap64 (a1 - 1))] (by rfl) rfl rfl zm ?_
          with_reducible refine (spec_l01In.calls ((rd_T59 l2 x7_2).f0) 0 (wrap64 (a1 - 1)) true _ A11.out).mono ?_
          rintro e w' ⟨rfl, ⟨nd, rfl⟩⟩
          refine ⟨_, rfl, ?_⟩
          refine hK.out _ _ ⟨(jF BK144.out 0).trans rfl, (jF BK144.out 1).trans rfl, (jF BK144.out 2).trans rfl⟩ (fun hHeld => ?_)
          clear hK K
          refine norm_ (a' := ?_) ?_ ?_
          rotate_left
          ·show Act.put _ (some 31) _ = _
           simp only [Act.put, jO, jT, jU, i64_w, i32_w]
           rfl
          refine zp HT_ 5 32 m40_fc00000000 ?_
          refine zp HT_ 6 33 m40_fe00000000 ?_
          refine zp HT_ 7 34 m40_ff00000000 ?_
          refine zp HT_ 8 35 m40_ff80000000 ?_
          refine zp HT_ 10 37 m40_ffa0000000 ?_
          refine zt3 HT_ HW_ hHeld 9 36 m40_ffe0000000 ?_
          refine zt3 HT_ HW_ hHeld 11 38 m40_fff0000000 ?_
          refine one_ (i := 12) (N := some 39) m40_fff8000000 rfl rfl (one_of HT_.out zr) (by decide) (fun K hK => ?_)
          refine goes_ Try.func90 zr rfl #[.slice A0 l0.length c0, .int .i64 ((rd_T59 l2 x7_2).f1), .int .i64 ((rd_T59 l2 x7_2).f2)] (by rfl) rfl rfl zm ?_
          with_reducible refine (spec_l13Pin.calls _ _ l0 ((rd_T59 l2 x7_2).f1) ((rd_T59 l2 x7_2).f2) false _ ?side1 ?side2 A13.out).mono ?_
          (case side1 => repeat (first | exact HR0.out | exact (Kd.C_below HR0.out (zb1 HB GE144)) | (with_reducible refine jR ?_ _) | (with_reducible refine jQ ?_ _) | (with_reducible refine jS ?_)))
          (case side2 => exact HC0.out)
          rintro e w' ⟨rfl, ⟨nd, rfl⟩⟩
          refine ⟨_, rfl, ?_⟩
          refine hK.out _ _ ⟨(jF BK144.out 0).trans rfl, (jF BK144.out 1).trans rfl, (jF BK144.out 2).trans rfl⟩ (fun hHeld => ?_)
          clear hK K
          refine norm_ (a' := ?_) ?_ ?_
          rotate_left
          ·show Act.put _ (some 39) _ = _
           simp only [Act.put, jO, jT, jU, i64_w, i32_w]
           rfl
          refine zp HT_ 13 40 m40_fffc000000 ?_
          refine zp HT_ 14 41 m40_fffe000000 ?_
          refine zp HT_ 15 42 m40_ffff000000 ?_
          refine zq HT_ 16 43 m40_ffff800000 ?_
          refine zq HT_ 17 44 m40_ffffc00000 ?_
          refine zq HT_ 18 45 m40_ffffe00000 ?_
          refine zq HT_ 19 46 m40_fffff00000 ?_
          refine zq HT_ 20 47 m40_fffff80000 ?_
          refine zq HT_ 21 48 m40_fffffc0000 ?_
          refine zq HT_ 22 49 m40_fffffe0000 ?_
          refine zq HT_ 23 50 m40_ffffff0000 ?_
          refine zq HT_ 24 51 m40_ffffff8000 ?_
          refine zq HT_ 25 52 m40_ffffffc000 ?_
          refine zq HT_ 26 53 m40_ffffffe000 ?_
          refine zq HT_ 27 54 m40_fffffff000 ?_
          refine zq HT_ 28 55 m40_fffffff800 ?_
          refine zp HT_ 29 56 m40_fffffffc00 ?_
          refine zp HT_ 30 57 m40_fffffffe00 ?_
          refine zq HT_ 31 58 m40_ffffffff00 ?_
          refine zq HT_ 32 59 m40_ffffffff80 ?_
          refine zq HT_ 33 60 m40_ffffffffc0 ?_
          refine zq HT_ 34 61 m40_ffffffffe0 ?_
          refine zq HT_ 35 62 m40_fffffffff0 ?_
          refine zq HT_ 36 63 m40_fffffffff8 ?_
          refine zq HT_ 37 64 m40_fffffffffc ?_
          refine zq HT_ 38 65 m40_fffffffffe ?_
          refine zp HT_ 39 66 m40_ffffffffff ?_
          refine done_ (done_of HT_.out zr) ?_
          try go_wp2
          go_ret
          exact ⟨by first | rfl | (simp [errW_none, errW_some] <;> rfl) | (simp [*, errW_none, errW_some] <;> rfl), zb1 HB GE144⟩
        ·replace c12 := Bool.eq_false_iff.mpr c12
         subst c12
         have H1 : (some false) = some r := by rw [if_neg (show ¬ (false = true) by decide)] at H; exact H
         clear H
         have H := H1
         clear H1
         obtain rfl := jW H
         have p143 : 0 ≤ (x7_2 : Int) := jB za
         have q143 : x7_2 < (l2.length : Int) := jB za
         obtain ⟨ad143, e143, hx143_0, hx143_1, hx143_2⟩ := at_T59 HR2.out x7_2 p143 q143
         cases e143
         replace hx143_0 := (HB.out.cell (jC w _ hx143_0)).trans hx143_0
         replace hx143_1 := (HB.out.cell (jC w _ hx143_1)).trans hx143_1
         replace hx143_2 := (HB.out.cell (jC w _ hx143_2)).trans hx143_2
         replace p143 := eq_true p143
         replace q143 := eq_true q143
         try go_wp2_with (first | ((with_reducible refine gate_dst (N := 8) rfl ?_); refine box_event ?hg (N := 8) ?hd (cs := #[.int .i64 0, .int .i64 0, .int .i64 0]) (t := 59) ?hr ?_; (case hd => rfl); (case hg => rfl); (case hr => first | (go_simp; done) | (go_simp; rfl)); intro gb144 hg w48 hbox hb; have n0_ := jA (jV (zb0 HB) hb); have n1_ := jA (hbox); have n2_ := jA ((by rw [hg]; exact (jY (zb0 HB)) : w.heap.size ≤ gb144)); have n3_ := jA ((by rw [hg]; exact (jY (zb0 HB)) : w.heap.size ≤ gb144)); clear HB; have HB := n0_; have BK144 := n1_; have GW144 := n2_; have GE144 := n3_; clear n0_ n1_ n2_ n3_; clear hb hbox hg; have hcz49_0 : w48.cell? ⟨gb144, 0, none⟩ = some (.int .i64 0) := (jF BK144.out 0).trans rfl; have hcz49_1 : w48.cell? ⟨gb144, 1, none⟩ = some (.int .i64 0) := (jF BK144.out 1).trans rfl; have hcz49_2 : w48.cell? ⟨gb144, 2, none⟩ = some (.int .i64 0) := (jF BK144.out 2).trans rfl; have hfz49_0 := jX BK144.out 0; have hfz49_1 := jX BK144.out 1; have hfz49_2 := jX BK144.out 2))
         have n0_ : Aside0 ((((w48.setCell ⟨gb144, 0, none⟩ (.int .i64 ((rd_T59 l2 x7_2).f0))).setCell ⟨gb144, 1, none⟩ (.int .i64 ((rd_T59 l2 x7_2).f1))).setCell ⟨gb144, 2, none⟩ (.int .i64 ((rd_T59 l2 x7_2).f2))).heap[gb144]? = some (.cells #[.int .i64 ((rd_T59 l2 x7_2).f0), .int .i64 ((rd_T59 l2 x7_2).f1), .int .i64 ((rd_T59 l2 x7_2).f2)] 59 (0, 0))) := ⟨by (with_reducible repeat (first | refine jc ?_ _ | refine jb ?_ | refine jd ?_ _)); refine blk_put (cs := #[.int .i64 ((rd_T59 l2 x7_2).f0), .int .i64 ((rd_T59 l2 x7_2).f1), .int .i64 0]) ?_ 2 _ rfl; (with_reducible repeat (first | refine jc ?_ _ | refine jb ?_ | refine jd ?_ _)); refine blk_put (cs := #[.int .i64 ((rd_T59 l2 x7_2).f0), .int .i64 0, .int .i64 0]) ?_ 1 _ rfl; (with_reducible repeat (first | refine jc ?_ _ | refine jb ?_ | refine jd ?_ _)); refine blk_put (cs := #[.int .i64 0, .int .i64 0, .int .i64 0]) ?_ 0 _ rfl; (with_reducible repeat (first | refine jc ?_ _ | refine jb ?_ | refine jd ?_ _)); exact BK144.out⟩
         have n1_ : Aside0 (Below w.heap.size w (((w48.setCell ⟨gb144, 0, none⟩ (.int .i64 ((rd_T59 l2 x7_2).f0))).setCell ⟨gb144, 1, none⟩ (.int .i64 ((rd_T59 l2 x7_2).f1))).setCell ⟨gb144, 2, none⟩ (.int .i64 ((rd_T59 l2 x7_2).f2)))) := ⟨zb1 HB GE144⟩
         (try clear BK144)
         (try clear HB)
         generalize (((w48.setCell ⟨gb144, 0, none⟩ (.int .i64 ((rd_T59 l2 x7_2).f0))).setCell ⟨gb144, 1, none⟩ (.int .i64 ((rd_T59 l2 x7_2).f1))).setCell ⟨gb144, 2, none⟩ (.int .i64 ((rd_T59 l2 x7_2).f2))) = w50 at n0_ n1_ ⊢
         have BK144 := n0_
         have HB := n1_
         clear n0_ n1_
         have n0_ := jA (jb BK144.out)
         have n1_ := jA (jI HB.out)
         clear BK144
         clear HB
         have BK144 := n0_
         have HB := n1_
         clear n0_ n1_
         refine start_ (n := 40) (S := fun w' => w'.cell? ⟨gb144, 0, none⟩ = some (.int .i64 ((rd_T59 l2 x7_2).f0)) ∧ w'.cell? ⟨gb144, 1, none⟩ = some (.int .i64 ((rd_T59 l2 x7_2).f1)) ∧ w'.cell? ⟨gb144, 2, none⟩ = some (.int .i64 ((rd_T59 l2 x7_2).f2))) (ds := []) m40_0 zr rfl rfl ⟨(jF BK144.out 0).trans rfl, (jF BK144.out 1).trans rfl, (jF BK144.out 2).trans rfl⟩ (fun hHeld => ?_); refine with_tabW spec_AreWires.tab7 spec_AreWires.bits7 (fun HT_ HW_ => ?_)
         generalize w50.drew = w51 at BK144 HB hHeld ⊢
         refine zp HT_ 0 27 m40_8000000000 ?_
         refine zp HT_ 2 29 m40_a000000000 ?_
         refine zp HT_ 3 30 m40_b000000000 ?_
         refine zt3 HT_ HW_ hHeld 1 28 m40_f000000000 ?_
         refine one_ (i := 4) (N := some 31) m40_f800000000 rfl rfl (one_of HT_.out zr) (by decide) (fun K hK => ?_)
         refine goes_ Try.func60 zr rfl #[.int .i64 ((rd_T59 l2 x7_2).f0), .int .i64 0, .int .i64 (wrap64 (a1 - 1))] (by rfl) rfl rfl zm ?_
         with_reducible refine (spec_l01In.calls ((rd_T59 l2 x7_2).f0) 0 (wrap64 (a1 - 1)) false _ A11.out).mono ?_
         rintro e w' ⟨rfl, ⟨nd, rfl⟩⟩
         refine ⟨_, rfl, ?_⟩
         refine hK.out _ _ ⟨(jF BK144.out 0).trans rfl, (jF BK144.out 1).trans rfl, (jF BK144.out 2).trans rfl⟩ (fun hHeld => ?_)
         clear hK K
         refine norm_ (a' := ?_) ?_ ?_
         rotate_left
         ·show Act.put _ (some 31) _ = _
          simp only [Act.put, jO, jT, jU, i64_w, i32_w]
          rfl
         refine zp HT_ 5 32 m40_fc00000000 ?_
         refine zp HT_ 6 33 m40_fe00000000 ?_
         refine zq HT_ 7 34 m40_ff00000000 ?_
         refine zq HT_ 8 35 m40_ff80000000 ?_
         refine zq HT_ 9 36 #[true, true, true, true, true, true, true, true, true, true, false, false, false, false, false, false, false, false, false, false, false, false, false, false, false, false, false, false, false, false, false, false, false, false, false, false, false, false, false, false] ?_
         refine zq HT_ 10 37 m40_ffe0000000 ?_
         refine zq HT_ 11 38 m40_fff0000000 ?_
         refine zq HT_ 12 39 m40_fff8000000 ?_
         refine zq HT_ 13 40 m40_fffc000000 ?_
         refine zp HT_ 14 41 m40_fffe000000 ?_
         refine zp HT_ 15 42 m40_ffff000000 ?_
         refine zq HT_ 16 43 m40_ffff800000 ?_
         refine zq HT_ 17 44 m40_ffffc00000 ?_
         refine zq HT_ 18 45 m40_ffffe00000 ?_
         refine zq HT_ 19 46 m40_fffff00000 ?_
         refine zq HT_ 20 47 m40_fffff80000 ?_
         refine zq HT_ 21 48 m40_fffffc0000 ?_
         refine zq HT_ 22 49 m40_fffffe0000 ?_
         refine zq HT_ 23 50 m40_ffffff0000 ?_
         refine zq HT_ 24 51 m40_ffffff8000 ?_
         refine zq HT_ 25 52 m40_ffffffc000 ?_
         refine zq HT_ 26 53 m40_ffffffe000 ?_
         refine zq HT_ 27 54 m40_fffffff000 ?_
         refine zq HT_ 28 55 m40_fffffff800 ?_
         refine zp HT_ 29 56 m40_fffffffc00 ?_
         refine zp HT_ 30 57 m40_fffffffe00 ?_
         refine zq HT_ 31 58 m40_ffffffff00 ?_
         refine zq HT_ 32 59 m40_ffffffff80 ?_
         refine zq HT_ 33 60 m40_ffffffffc0 ?_
         refine zq HT_ 34 61 m40_ffffffffe0 ?_
         refine zq HT_ 35 62 m40_fffffffff0 ?_
         refine zq HT_ 36 63 m40_fffffffff8 ?_
         refine zq HT_ 37 64 m40_fffffffffc ?_
         refine zq HT_ 38 65 m40_fffffffffe ?_
         refine zp HT_ 39 66 m40_ffffffffff ?_
         refine done_ (done_of HT_.out zr) ?_
         try go_wp2
         go_ret
         exact ⟨by first | rfl | (simp [errW_none, errW_some] <;> rfl) | (simp [*, errW_none, errW_some] <;> rfl), zb1 HB GE144⟩
       ·rw [if_neg c10] at H
        exact absurd H (by simp)
      ·rw [if_neg c9] at H
       have c9b0 : decide (x7_2 < (l2.length : Int)) = false := ja c9
       clear c9
       obtain rfl := jW H
       go_wp2
       go_ret
       exact ⟨by first | rfl | (simp [errW_none, errW_some] <;> rfl) | (simp [*, errW_none, errW_some] <;> rfl), zb0 HB⟩

end Go.Proofs.Ytddejaomlnldiaa.PFnStops
