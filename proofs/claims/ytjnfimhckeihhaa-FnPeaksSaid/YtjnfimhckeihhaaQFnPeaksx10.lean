/- Functions and contracts that FnPeaks reaches (11 of 11). -/
import Derived.Test.YtjnfimhckeihhaaQFnPeaksx9
namespace Go.Proofs.Ytjnfimhckeihhaa.PFnPeaks
open Go.RowKit Go.Proofs.YtjnfimhckeihhaaW.PrintWords Go.Proofs.YtjnfimhckeihhaaW.PrintLast Go.Proofs.YtjnfimhckeihhaaW.PrintMore
attribute [local go_sem] max2_int min2_int max_two min_two max_three min_three max_four min_four   -- for this text's walks alone
set_option linter.unusedVariables false
set_option linter.unusedSimpArgs false

/-! ### laws_FnPeaks: function 12 -/
mutual
def laws_FnPeaks.j0 : Nat → List (S55) → Int → Int → Int → Int → List (S55) → Int → Int → Int → Int → Int → Int → Bool → Int → Bool → Option (Bool)
  | 0, _, _, _, _, _, _, _, _, _, _, _, _, _, _, _ => none
  | k + 1, x3, x4, x5, x6, x7, x10, x11, x12, x13, x24, x26, x27, x28, x29, x161 => if x161 = true then (some false) else (if x27 = 0 then (if x26 > x24 then (laws_FnPeaks.j1 k x3 x4 x5 x6 x7 x10 x11 x12 x13 true) else (if x29 = 0 then (laws_FnPeaks.j1 k x3 x4 x5 x6 x7 x10 x11 x12 x13 (!x28)) else (laws_FnPeaks.j1 k x3 x4 x5 x6 x7 x10 x11 x12 x13 true))) else (laws_FnPeaks.j1 k x3 x4 x5 x6 x7 x10 x11 x12 x13 false))
def laws_FnPeaks.j1 : Nat → List (S55) → Int → Int → Int → Int → List (S55) → Int → Int → Int → Bool → Option (Bool)
  | 0, _, _, _, _, _, _, _, _, _, _ => none
  | k + 1, x3, x4, x5, x6, x7, x10, x11, x12, x13, x176 => if x176 = true then (some false) else (if x13 = 0 then ((impl_FewestVehicles.f k x10 x12).bind fun bt481 => (if bt481.2 = 0 then (laws_FnPeaks.j2 k x3 x4 x5 x6 x7 x10 x11 x12 (decide (bt481.1 > x11))) else (laws_FnPeaks.j2 k x3 x4 x5 x6 x7 x10 x11 x12 true))) else (if x7 = 0 then (if (x3.length : Int) = 0 then (some (x6 == 0)) else ((impl_CountLoadings.f k x3 x6 x5).bind fun bt489 => (if x6 ≤ x4 then (if bt489.2 = 0 then (some (decide (bt489.1 > 0))) else (some false)) else (some false)))) else (some true)))
def laws_FnPeaks.j2 : Nat → List (S55) → Int → Int → Int → Int → List (S55) → Int → Int → Bool → Option (Bool)
  | 0, _, _, _, _, _, _, _, _, _ => none
  | k + 1, x3, x4, x5, x6, x7, x10, x11, x12, x191 => if x191 = true then (some false) else (if x12 > 1 then ((impl_FewestVehicles.f k x10 (wrap64 (x12 - 1))).bind fun bt483 => (if bt483.2 = 4 then (laws_FnPeaks.j3 k x3 x4 x5 x6 x7 false) else (if bt483.2 = 0 then (laws_FnPeaks.j3 k x3 x4 x5 x6 x7 (decide (bt483.1 ≤ x11))) else (laws_FnPeaks.j3 k x3 x4 x5 x6 x7 true)))) else (if x7 = 0 then (if (x3.length : Int) = 0 then (some (x6 == 0)) else ((impl_CountLoadings.f k x3 x6 x5).bind fun bt487 => (if x6 ≤ x4 then (if bt487.2 = 0 then (some (decide (bt487.1 > 0))) else (some false)) else (some false)))) else (some true)))
def laws_FnPeaks.j3 : Nat → List (S55) → Int → Int → Int → Int → Bool → Option (Bool)
  | 0, _, _, _, _, _, _ => none
  | k + 1, x3, x4, x5, x6, x7, x211 => if x211 = true then (some false) else (if x7 = 0 then (if (x3.length : Int) = 0 then (some (x6 == 0)) else ((impl_CountLoadings.f k x3 x6 x5).bind fun bt485 => (if x6 ≤ x4 then (if bt485.2 = 0 then (some (decide (bt485.1 > 0))) else (some false)) else (some false)))) else (some true))
end
def laws_FnPeaks.f (k : Nat) (l0 : List Int) : Option (Bool) := (laws_big.f l0).bind fun t441 => (if t441 = true then (some true) else ((spec_DrawLeastPeak.f k l0).bind fun bt442 => ((impl_LeastPeak.f k bt442.1 bt442.2.1 bt442.2.2).bind fun bt447 => ((spec_LeastPeak.f k bt442.1 bt442.2.1 bt442.2.2).bind fun bt449 => ((spec_DrawLeastLimit.f k l0).bind fun bt451 => ((impl_LeastLimit.f k bt451.1 bt451.2).bind fun bt455 => ((spec_LeastLimit.f k bt451.1 bt451.2).bind fun bt457 => ((spec_DrawCountLoadings.f k l0).bind fun bt459 => ((impl_CountLoadings.f k bt459.1 bt459.2.1 bt459.2.2).bind fun bt464 => ((spec_CountLoadings.f k bt459.1 bt459.2.1 bt459.2.2).bind fun bt466 => ((spec_DrawPeakOf.f k l0).bind fun bt468 => ((impl_PeakOf.f k bt468.1 bt468.2.1 bt468.2.2).bind fun bt475 => ((impl_IsLoading.f k bt468.1 bt468.2.1 bt468.2.2).bind fun bt477 => ((spec_PeakOf.f k bt468.1 bt468.2.1 bt468.2.2).bind fun bt479 => (if bt447.2 = bt449.2 then (if bt447.1 = bt449.1 then (if bt455.2 = bt457.2 then (if bt455.1 = bt457.1 then (if bt464.2 = bt466.2 then (if bt464.1 = bt466.1 then (if bt475.2 = bt479.2 then (laws_FnPeaks.j0 k bt442.1 bt442.2.1 bt442.2.2 bt447.1 bt447.2 bt451.1 bt451.2 bt455.1 bt455.2 bt468.2.1 bt475.1 bt475.2 bt477.1 bt477.2 (bt475.1 != bt479.1)) else (laws_FnPeaks.j0 k bt442.1 bt442.2.1 bt442.2.2 bt447.1 bt447.2 bt451.1 bt451.2 bt455.1 bt455.2 bt468.2.1 bt475.1 bt475.2 bt477.1 bt477.2 true)) else (laws_FnPeaks.j0 k bt442.1 bt442.2.1 bt442.2.2 bt447.1 bt447.2 bt451.1 bt451.2 bt455.1 bt455.2 bt468.2.1 bt475.1 bt475.2 bt477.1 bt477.2 true)) else (laws_FnPeaks.j0 k bt442.1 bt442.2.1 bt442.2.2 bt447.1 bt447.2 bt451.1 bt451.2 bt455.1 bt455.2 bt468.2.1 bt475.1 bt475.2 bt477.1 bt477.2 true)) else (laws_FnPeaks.j0 k bt442.1 bt442.2.1 bt442.2.2 bt447.1 bt447.2 bt451.1 bt451.2 bt455.1 bt455.2 bt468.2.1 bt475.1 bt475.2 bt477.1 bt477.2 true)) else (laws_FnPeaks.j0 k bt442.1 bt442.2.1 bt442.2.2 bt447.1 bt447.2 bt451.1 bt451.2 bt455.1 bt455.2 bt468.2.1 bt475.1 bt475.2 bt477.1 bt477.2 true)) else (laws_FnPeaks.j0 k bt442.1 bt442.2.1 bt442.2.2 bt447.1 bt447.2 bt451.1 bt451.2 bt455.1 bt455.2 bt468.2.1 bt475.1 bt475.2 bt477.1 bt477.2 true)) else (laws_FnPeaks.j0 k bt442.1 bt442.2.1 bt442.2.2 bt447.1 bt447.2 bt451.1 bt451.2 bt455.1 bt455.2 bt468.2.1 bt475.1 bt475.2 bt477.1 bt477.2 true))))))))))))))))
theorem laws_FnPeaks.mono_l : ∀ k, (∀ y0 y1 y2 y3 y4 y5 y6 y7 y8 y9 y10 y11 y12 y13 y14, LeO (laws_FnPeaks.j0 k y0 y1 y2 y3 y4 y5 y6 y7 y8 y9 y10 y11 y12 y13 y14) (laws_FnPeaks.j0 (k + 1) y0 y1 y2 y3 y4 y5 y6 y7 y8 y9 y10 y11 y12 y13 y14)) ∧ (∀ y0 y1 y2 y3 y4 y5 y6 y7 y8 y9, LeO (laws_FnPeaks.j1 k y0 y1 y2 y3 y4 y5 y6 y7 y8 y9) (laws_FnPeaks.j1 (k + 1) y0 y1 y2 y3 y4 y5 y6 y7 y8 y9)) ∧ (∀ y0 y1 y2 y3 y4 y5 y6 y7 y8, LeO (laws_FnPeaks.j2 k y0 y1 y2 y3 y4 y5 y6 y7 y8) (laws_FnPeaks.j2 (k + 1) y0 y1 y2 y3 y4 y5 y6 y7 y8)) ∧ (∀ y0 y1 y2 y3 y4 y5, LeO (laws_FnPeaks.j3 k y0 y1 y2 y3 y4 y5) (laws_FnPeaks.j3 (k + 1) y0 y1 y2 y3 y4 y5))
  | 0 => ⟨fun _ _ _ _ _ _ _ _ _ _ _ _ _ _ _ r h => by simp [laws_FnPeaks.j0] at h, fun _ _ _ _ _ _ _ _ _ _ r h => by simp [laws_FnPeaks.j1] at h, fun _ _ _ _ _ _ _ _ _ r h => by simp [laws_FnPeaks.j2] at h, fun _ _ _ _ _ _ r h => by simp [laws_FnPeaks.j3] at h⟩
  | k + 1 => by
    obtain ⟨ih0, ih1, ih2, ih3⟩ := laws_FnPeaks.mono_l k
    refine ⟨?_, ?_, ?_, ?_⟩
    · as_aux_lemma =>
      intro y0 y1 y2 y3 y4 y5 y6 y7 y8 y9 y10 y11 y12 y13 y14
      unfold laws_FnPeaks.j0
      repeat' first
      | (with_reducible exact ih0 _ _ _ _ _ _ _ _ _ _ _ _ _ _ _)
      | (with_reducible exact ih1 _ _ _ _ _ _ _ _ _ _)
      | (with_reducible exact ih2 _ _ _ _ _ _ _ _ _)
      | (with_reducible exact ih3 _ _ _ _ _ _)
      | (with_reducible exact impl_CountLoadings.mono _ _ _ _)
      | (with_reducible exact impl_FewestVehicles.mono _ _ _)
      | (with_reducible exact impl_IsLoading.mono _ _ _ _)
      | (with_reducible exact impl_LeastLimit.mono _ _ _)
      | (with_reducible exact impl_LeastPeak.mono _ _ _ _)
      | (with_reducible exact impl_PeakOf.mono _ _ _ _)
      | (with_reducible exact spec_CountLoadings.mono _ _ _ _)
      | (with_reducible exact spec_DrawCountLoadings.mono _ _)
      | (with_reducible exact spec_DrawLeastLimit.mono _ _)
      | (with_reducible exact spec_DrawLeastPeak.mono _ _)
      | (with_reducible exact spec_DrawPeakOf.mono _ _)
      | (with_reducible exact spec_LeastLimit.mono _ _ _)
      | (with_reducible exact spec_LeastPeak.mono _ _ _ _)
      | (with_reducible exact spec_PeakOf.mono _ _ _ _)
      | (with_reducible exact LeO.refl _)
      | (with_reducible exact LeO.none _)
      | (with_reducible refine LeO.ite ?_ ?_)
      | (with_reducible refine LeO.bind ?_ (fun _ => ?_))
      | exact ih0 _ _ _ _ _ _ _ _ _ _ _ _ _ _ _
      | exact ih1 _ _ _ _ _ _ _ _ _ _
      | exact ih2 _ _ _ _ _ _ _ _ _
      | exact ih3 _ _ _ _ _ _
      | exact impl_CountLoadings.mono _ _ _ _
      | exact impl_FewestVehicles.mono _ _ _
      | exact impl_IsLoading.mono _ _ _ _
      | exact impl_LeastLimit.mono _ _ _
      | exact impl_LeastPeak.mono _ _ _ _
      | exact impl_PeakOf.mono _ _ _ _
      | exact spec_CountLoadings.mono _ _ _ _
      | exact spec_DrawCountLoadings.mono _ _
      | exact spec_DrawLeastLimit.mono _ _
      | exact spec_DrawLeastPeak.mono _ _
      | exact spec_DrawPeakOf.mono _ _
      | exact spec_LeastLimit.mono _ _ _
      | exact spec_LeastPeak.mono _ _ _ _
      | exact spec_PeakOf.mono _ _ _ _
      | exact LeO.none _
      | refine LeO.ite ?_ ?_
      | refine LeO.bind ?_ (fun _ => ?_)
    · as_aux_lemma =>
      intro y0 y1 y2 y3 y4 y5 y6 y7 y8 y9
      unfold laws_FnPeaks.j1
      repeat' first
      | (with_reducible exact ih0 _ _ _ _ _ _ _ _ _ _ _ _ _ _ _)
      | (with_reducible exact ih1 _ _ _ _ _ _ _ _ _ _)
      | (with_reducible exact ih2 _ _ _ _ _ _ _ _ _)
      | (with_reducible exact ih3 _ _ _ _ _ _)
      | (with_reducible exact impl_CountLoadings.mono _ _ _ _)
      | (with_reducible exact impl_FewestVehicles.mono _ _ _)
      | (with_reducible exact impl_IsLoading.mono _ _ _ _)
      | (with_reducible exact impl_LeastLimit.mono _ _ _)
      | (with_reducible exact impl_LeastPeak.mono _ _ _ _)
      | (with_reducible exact impl_PeakOf.mono _ _ _ _)
      | (with_reducible exact spec_CountLoadings.mono _ _ _ _)
      | (with_reducible exact spec_DrawCountLoadings.mono _ _)
      | (with_reducible exact spec_DrawLeastLimit.mono _ _)
      | (with_reducible exact spec_DrawLeastPeak.mono _ _)
      | (with_reducible exact spec_DrawPeakOf.mono _ _)
      | (with_reducible exact spec_LeastLimit.mono _ _ _)
      | (with_reducible exact spec_LeastPeak.mono _ _ _ _)
      | (with_reducible exact spec_PeakOf.mono _ _ _ _)
      | (with_reducible exact LeO.refl _)
      | (with_reducible exact LeO.none _)
      | (with_reducible refine LeO.ite ?_ ?_)
      | (with_reducible refine LeO.bind ?_ (fun _ => ?_))
      | exact ih0 _ _ _ _ _ _ _ _ _ _ _ _ _ _ _
      | exact ih1 _ _ _ _ _ _ _ _ _ _
      | exact ih2 _ _ _ _ _ _ _ _ _
      | exact ih3 _ _ _ _ _ _
      | exact impl_CountLoadings.mono _ _ _ _
      | exact impl_FewestVehicles.mono _ _ _
      | exact impl_IsLoading.mono _ _ _ _
      | exact impl_LeastLimit.mono _ _ _
      | exact impl_LeastPeak.mono _ _ _ _
      | exact impl_PeakOf.mono _ _ _ _
      | exact spec_CountLoadings.mono _ _ _ _
      | exact spec_DrawCountLoadings.mono _ _
      | exact spec_DrawLeastLimit.mono _ _
      | exact spec_DrawLeastPeak.mono _ _
      | exact spec_DrawPeakOf.mono _ _
      | exact spec_LeastLimit.mono _ _ _
      | exact spec_LeastPeak.mono _ _ _ _
      | exact spec_PeakOf.mono _ _ _ _
      | exact LeO.none _
      | refine LeO.ite ?_ ?_
      | refine LeO.bind ?_ (fun _ => ?_)
    · as_aux_lemma =>
      intro y0 y1 y2 y3 y4 y5 y6 y7 y8
      unfold laws_FnPeaks.j2
      repeat' first
      | (with_reducible exact ih0 _ _ _ _ _ _ _ _ _ _ _ _ _ _ _)
      | (with_reducible exact ih1 _ _ _ _ _ _ _ _ _ _)
      | (with_reducible exact ih2 _ _ _ _ _ _ _ _ _)
      | (with_reducible exact ih3 _ _ _ _ _ _)
      | (with_reducible exact impl_CountLoadings.mono _ _ _ _)
      | (with_reducible exact impl_FewestVehicles.mono _ _ _)
      | (with_reducible exact impl_IsLoading.mono _ _ _ _)
      | (with_reducible exact impl_LeastLimit.mono _ _ _)
      | (with_reducible exact impl_LeastPeak.mono _ _ _ _)
      | (with_reducible exact impl_PeakOf.mono _ _ _ _)
      | (with_reducible exact spec_CountLoadings.mono _ _ _ _)
      | (with_reducible exact spec_DrawCountLoadings.mono _ _)
      | (with_reducible exact spec_DrawLeastLimit.mono _ _)
      | (with_reducible exact spec_DrawLeastPeak.mono _ _)
      | (with_reducible exact spec_DrawPeakOf.mono _ _)
      | (with_reducible exact spec_LeastLimit.mono _ _ _)
      | (with_reducible exact spec_LeastPeak.mono _ _ _ _)
      | (with_reducible exact spec_PeakOf.mono _ _ _ _)
      | (with_reducible exact LeO.refl _)
      | (with_reducible exact LeO.none _)
      | (with_reducible refine LeO.ite ?_ ?_)
      | (with_reducible refine LeO.bind ?_ (fun _ => ?_))
      | exact ih0 _ _ _ _ _ _ _ _ _ _ _ _ _ _ _
      | exact ih1 _ _ _ _ _ _ _ _ _ _
      | exact ih2 _ _ _ _ _ _ _ _ _
      | exact ih3 _ _ _ _ _ _
      | exact impl_CountLoadings.mono _ _ _ _
      | exact impl_FewestVehicles.mono _ _ _
      | exact impl_IsLoading.mono _ _ _ _
      | exact impl_LeastLimit.mono _ _ _
      | exact impl_LeastPeak.mono _ _ _ _
      | exact impl_PeakOf.mono _ _ _ _
      | exact spec_CountLoadings.mono _ _ _ _
      | exact spec_DrawCountLoadings.mono _ _
      | exact spec_DrawLeastLimit.mono _ _
      | exact spec_DrawLeastPeak.mono _ _
      | exact spec_DrawPeakOf.mono _ _
      | exact spec_LeastLimit.mono _ _ _
      | exact spec_LeastPeak.mono _ _ _ _
      | exact spec_PeakOf.mono _ _ _ _
      | exact LeO.none _
      | refine LeO.ite ?_ ?_
      | refine LeO.bind ?_ (fun _ => ?_)
    · as_aux_lemma =>
      intro y0 y1 y2 y3 y4 y5
      unfold laws_FnPeaks.j3
      repeat' first
      | (with_reducible exact ih0 _ _ _ _ _ _ _ _ _ _ _ _ _ _ _)
      | (with_reducible exact ih1 _ _ _ _ _ _ _ _ _ _)
      | (with_reducible exact ih2 _ _ _ _ _ _ _ _ _)
      | (with_reducible exact ih3 _ _ _ _ _ _)
      | (with_reducible exact impl_CountLoadings.mono _ _ _ _)
      | (with_reducible exact impl_FewestVehicles.mono _ _ _)
      | (with_reducible exact impl_IsLoading.mono _ _ _ _)
      | (with_reducible exact impl_LeastLimit.mono _ _ _)
      | (with_reducible exact impl_LeastPeak.mono _ _ _ _)
      | (with_reducible exact impl_PeakOf.mono _ _ _ _)
      | (with_reducible exact spec_CountLoadings.mono _ _ _ _)
      | (with_reducible exact spec_DrawCountLoadings.mono _ _)
      | (with_reducible exact spec_DrawLeastLimit.mono _ _)
      | (with_reducible exact spec_DrawLeastPeak.mono _ _)
      | (with_reducible exact spec_DrawPeakOf.mono _ _)
      | (with_reducible exact spec_LeastLimit.mono _ _ _)
      | (with_reducible exact spec_LeastPeak.mono _ _ _ _)
      | (with_reducible exact spec_PeakOf.mono _ _ _ _)
      | (with_reducible exact LeO.refl _)
      | (with_reducible exact LeO.none _)
      | (with_reducible refine LeO.ite ?_ ?_)
      | (with_reducible refine LeO.bind ?_ (fun _ => ?_))
      | exact ih0 _ _ _ _ _ _ _ _ _ _ _ _ _ _ _
      | exact ih1 _ _ _ _ _ _ _ _ _ _
      | exact ih2 _ _ _ _ _ _ _ _ _
      | exact ih3 _ _ _ _ _ _
      | exact impl_CountLoadings.mono _ _ _ _
      | exact impl_FewestVehicles.mono _ _ _
      | exact impl_IsLoading.mono _ _ _ _
      | exact impl_LeastLimit.mono _ _ _
      | exact impl_LeastPeak.mono _ _ _ _
      | exact impl_PeakOf.mono _ _ _ _
      | exact spec_CountLoadings.mono _ _ _ _
      | exact spec_DrawCountLoadings.mono _ _
      | exact spec_DrawLeastLimit.mono _ _
      | exact spec_DrawLeastPeak.mono _ _
      | exact spec_DrawPeakOf.mono _ _
      | exact spec_LeastLimit.mono _ _ _
      | exact spec_LeastPeak.mono _ _ _ _
      | exact spec_PeakOf.mono _ _ _ _
      | exact LeO.none _
      | refine LeO.ite ?_ ?_
      | refine LeO.bind ?_ (fun _ => ?_)
theorem laws_FnPeaks.mono : ∀ a0 k, LeO (laws_FnPeaks.f k a0) (laws_FnPeaks.f (k + 1) a0) := by
  intro a0 k
  obtain ⟨ih0, ih1, ih2, ih3⟩ := laws_FnPeaks.mono_l k
  unfold laws_FnPeaks.f
  repeat' first
      | (with_reducible exact ih0 _ _ _ _ _ _ _ _ _ _ _ _ _ _ _)
      | (with_reducible exact ih1 _ _ _ _ _ _ _ _ _ _)
      | (with_reducible exact ih2 _ _ _ _ _ _ _ _ _)
      | (with_reducible exact ih3 _ _ _ _ _ _)
      | (with_reducible exact impl_CountLoadings.mono _ _ _ _)
      | (with_reducible exact impl_FewestVehicles.mono _ _ _)
      | (with_reducible exact impl_IsLoading.mono _ _ _ _)
      | (with_reducible exact impl_LeastLimit.mono _ _ _)
      | (with_reducible exact impl_LeastPeak.mono _ _ _ _)
      | (with_reducible exact impl_PeakOf.mono _ _ _ _)
      | (with_reducible exact spec_CountLoadings.mono _ _ _ _)
      | (with_reducible exact spec_DrawCountLoadings.mono _ _)
      | (with_reducible exact spec_DrawLeastLimit.mono _ _)
      | (with_reducible exact spec_DrawLeastPeak.mono _ _)
      | (with_reducible exact spec_DrawPeakOf.mono _ _)
      | (with_reducible exact spec_LeastLimit.mono _ _ _)
      | (with_reducible exact spec_LeastPeak.mono _ _ _ _)
      | (with_reducible exact spec_PeakOf.mono _ _ _ _)
      | (with_reducible exact LeO.refl _)
      | (with_reducible exact LeO.none _)
      | (with_reducible refine LeO.ite ?_ ?_)
      | (with_reducible refine LeO.bind ?_ (fun _ => ?_))
      | exact ih0 _ _ _ _ _ _ _ _ _ _ _ _ _ _ _
      | exact ih1 _ _ _ _ _ _ _ _ _ _
      | exact ih2 _ _ _ _ _ _ _ _ _
      | exact ih3 _ _ _ _ _ _
      | exact impl_CountLoadings.mono _ _ _ _
      | exact impl_FewestVehicles.mono _ _ _
      | exact impl_IsLoading.mono _ _ _ _
      | exact impl_LeastLimit.mono _ _ _
      | exact impl_LeastPeak.mono _ _ _ _
      | exact impl_PeakOf.mono _ _ _ _
      | exact spec_CountLoadings.mono _ _ _ _
      | exact spec_DrawCountLoadings.mono _ _
      | exact spec_DrawLeastLimit.mono _ _
      | exact spec_DrawLeastPeak.mono _ _
      | exact spec_DrawPeakOf.mono _ _
      | exact spec_LeastLimit.mono _ _ _
      | exact spec_LeastPeak.mono _ _ _ _
      | exact spec_PeakOf.mono _ _ _ _
      | exact LeO.none _
      | refine LeO.ite ?_ ?_
      | refine LeO.bind ?_ (fun _ => ?_)
set_option maxHeartbeats 8000000 in
set_option maxRecDepth 100000 in
theorem laws_FnPeaks.calls (k : Nat) (A0 : Option Addr) (c0 : Nat) (l0 : List Int) (r : Bool) (w : World) (hr0 : Kd.C (Kd.int .u8) w A0 l0.length l0) (hc0 : l0.length ≤ c0) (h : laws_FnPeaks.f k l0 = some r) :
    Calls Try.prog 12 #[.slice A0 l0.length c0] w fun e w' => e = .returned (.bool r) ∧ Below w.heap.size w w' := by
  have HR0 := Aside0.mk hr0
  have HC0 := Aside0.mk hc0
  clear hr0 hc0
  have HB := Aside0.mk (Below.refl w.heap.size w)
  have H : ((laws_big.f l0).bind fun t441 => (if t441 = true then (some true) else ((spec_DrawLeastPeak.f k l0).bind fun bt442 => ((impl_LeastPeak.f k bt442.1 bt442.2.1 bt442.2.2).bind fun bt447 => ((spec_LeastPeak.f k bt442.1 bt442.2.1 bt442.2.2).bind fun bt449 => ((spec_DrawLeastLimit.f k l0).bind fun bt451 => ((impl_LeastLimit.f k bt451.1 bt451.2).bind fun bt455 => ((spec_LeastLimit.f k bt451.1 bt451.2).bind fun bt457 => ((spec_DrawCountLoadings.f k l0).bind fun bt459 => ((impl_CountLoadings.f k bt459.1 bt459.2.1 bt459.2.2).bind fun bt464 => ((spec_CountLoadings.f k bt459.1 bt459.2.1 bt459.2.2).bind fun bt466 => ((spec_DrawPeakOf.f k l0).bind fun bt468 => ((impl_PeakOf.f k bt468.1 bt468.2.1 bt468.2.2).bind fun bt475 => ((impl_IsLoading.f k bt468.1 bt468.2.1 bt468.2.2).bind fun bt477 => ((spec_PeakOf.f k bt468.1 bt468.2.1 bt468.2.2).bind fun bt479 => (if bt447.2 = bt449.2 then (if bt447.1 = bt449.1 then (if bt455.2 = bt457.2 then (if bt455.1 = bt457.1 then (if bt464.2 = bt466.2 then (if bt464.1 = bt466.1 then (if bt475.2 = bt479.2 then (laws_FnPeaks.j0 k bt442.1 bt442.2.1 bt442.2.2 bt447.1 bt447.2 bt451.1 bt451.2 bt455.1 bt455.2 bt468.2.1 bt475.1 bt475.2 bt477.1 bt477.2 (bt475.1 != bt479.1)) else (laws_FnPeaks.j0 k bt442.1 bt442.2.1 bt442.2.2 bt447.1 bt447.2 bt451.1 bt451.2 bt455.1 bt455.2 bt468.2.1 bt475.1 bt475.2 bt477.1 bt477.2 true)) else (laws_FnPeaks.j0 k bt442.1 bt442.2.1 bt442.2.2 bt447.1 bt447.2 bt451.1 bt451.2 bt455.1 bt455.2 bt468.2.1 bt475.1 bt475.2 bt477.1 bt477.2 true)) else (laws_FnPeaks.j0 k bt442.1 bt442.2.1 bt442.2.2 bt447.1 bt447.2 bt451.1 bt451.2 bt455.1 bt455.2 bt468.2.1 bt475.1 bt475.2 bt477.1 bt477.2 true)) else (laws_FnPeaks.j0 k bt442.1 bt442.2.1 bt442.2.2 bt447.1 bt447.2 bt451.1 bt451.2 bt455.1 bt455.2 bt468.2.1 bt475.1 bt475.2 bt477.1 bt477.2 true)) else (laws_FnPeaks.j0 k bt442.1 bt442.2.1 bt442.2.2 bt447.1 bt447.2 bt451.1 bt451.2 bt455.1 bt455.2 bt468.2.1 bt475.1 bt475.2 bt477.1 bt477.2 true)) else (laws_FnPeaks.j0 k bt442.1 bt442.2.1 bt442.2.2 bt447.1 bt447.2 bt451.1 bt451.2 bt455.1 bt455.2 bt468.2.1 bt475.1 bt475.2 bt477.1 bt477.2 true)) else (laws_FnPeaks.j0 k bt442.1 bt442.2.1 bt442.2.2 bt447.1 bt447.2 bt451.1 bt451.2 bt455.1 bt455.2 bt468.2.1 bt475.1 bt475.2 bt477.1 bt477.2 true))))))))))))))))) = some r := h
  clear h
  replace H := Option.bind_eq_some_iff.mp H
  obtain ⟨t441, A20, H⟩ := H
  replace H : (if t441 = true then (some true) else ((spec_DrawLeastPeak.f k l0).bind fun bt442 => ((impl_LeastPeak.f k bt442.1 bt442.2.1 bt442.2.2).bind fun bt447 => ((spec_LeastPeak.f k bt442.1 bt442.2.1 bt442.2.2).bind fun bt449 => ((spec_DrawLeastLimit.f k l0).bind fun bt451 => ((impl_LeastLimit.f k bt451.1 bt451.2).bind fun bt455 => ((spec_LeastLimit.f k bt451.1 bt451.2).bind fun bt457 => ((spec_DrawCountLoadings.f k l0).bind fun bt459 => ((impl_CountLoadings.f k bt459.1 bt459.2.1 bt459.2.2).bind fun bt464 => ((spec_CountLoadings.f k bt459.1 bt459.2.1 bt459.2.2).bind fun bt466 => ((spec_DrawPeakOf.f k l0).bind fun bt468 => ((impl_PeakOf.f k bt468.1 bt468.2.1 bt468.2.2).bind fun bt475 => ((impl_IsLoading.f k bt468.1 bt468.2.1 bt468.2.2).bind fun bt477 => ((spec_PeakOf.f k bt468.1 bt468.2.1 bt468.2.2).bind fun bt479 => (if bt447.2 = bt449.2 then (if bt447.1 = bt449.1 then (if bt455.2 = bt457.2 then (if bt455.1 = bt457.1 then (if bt464.2 = bt466.2 then (if bt464.1 = bt466.1 then (if bt475.2 = bt479.2 then (laws_FnPeaks.j0 k bt442.1 bt442.2.1 bt442.2.2 bt447.1 bt447.2 bt451.1 bt451.2 bt455.1 bt455.2 bt468.2.1 bt475.1 bt475.2 bt477.1 bt477.2 (bt475.1 != bt479.1)) else (laws_FnPeaks.j0 k bt442.1 bt442.2.1 bt442.2.2 bt447.1 bt447.2 bt451.1 bt451.2 bt455.1 bt455.2 bt468.2.1 bt475.1 bt475.2 bt477.1 bt477.2 true)) else (laws_FnPeaks.j0 k bt442.1 bt442.2.1 bt442.2.2 bt447.1 bt447.2 bt451.1 bt451.2 bt455.1 bt455.2 bt468.2.1 bt475.1 bt475.2 bt477.1 bt477.2 true)) else (laws_FnPeaks.j0 k bt442.1 bt442.2.1 bt442.2.2 bt447.1 bt447.2 bt451.1 bt451.2 bt455.1 bt455.2 bt468.2.1 bt475.1 bt475.2 bt477.1 bt477.2 true)) else (laws_FnPeaks.j0 k bt442.1 bt442.2.1 bt442.2.2 bt447.1 bt447.2 bt451.1 bt451.2 bt455.1 bt455.2 bt468.2.1 bt475.1 bt475.2 bt477.1 bt477.2 true)) else (laws_FnPeaks.j0 k bt442.1 bt442.2.1 bt442.2.2 bt447.1 bt447.2 bt451.1 bt451.2 bt455.1 bt455.2 bt468.2.1 bt475.1 bt475.2 bt477.1 bt477.2 true)) else (laws_FnPeaks.j0 k bt442.1 bt442.2.1 bt442.2.2 bt447.1 bt447.2 bt451.1 bt451.2 bt455.1 bt455.2 bt468.2.1 bt475.1 bt475.2 bt477.1 bt477.2 true)) else (laws_FnPeaks.j0 k bt442.1 bt442.2.1 bt442.2.2 bt447.1 bt447.2 bt451.1 bt451.2 bt455.1 bt455.2 bt468.2.1 bt475.1 bt475.2 bt477.1 bt477.2 true)))))))))))))))) = some r := H
  have A2 := Aside0.mk A20
  clear A20
  by_cases c3 : t441 = true
  · subst c3
    have H1 : (some true) = some r := by rw [if_pos rfl] at H; exact H
    clear H
    have H := H1
    clear H1
    obtain rfl := Option.some.inj H
    go_enter Try.func12, Try.ntmps12
    go_wp2_with (first | ((with_reducible refine gate_callee (f := 38) rfl ?_); refine goesL_ (some 39) rfl rfl Try.func38 (by kernel_rfl) rfl #[.slice A0 l0.length c0] rfl (by (try simp only [List.map_toArray, List.map_cons, List.map_nil]); first | done | rfl | (simp only [List.length_drop, List.length_take]; rfl)) ?_; (with_reducible refine (laws_big.calls _ _ l0 true _ ?side1 ?side2 A2.out).mono ?_); (case side1 => repeat (first | exact HR0.out | (with_reducible refine Kd.C_alloc ?_ _) | (with_reducible refine Kd.C_drewN ?_ _) | (with_reducible refine Kd.C_drew ?_))); (case side2 => exact HC0.out); rintro e w' ⟨rfl, ⟨nd, rfl⟩⟩; refine ⟨_, rfl, ?_⟩))
    go_ret
    exact ⟨by first | rfl | (simp [errW_none, errW_some] <;> rfl) | (simp [*, errW_none, errW_some] <;> rfl), by repeat (first | (with_reducible first | exact HB.out | apply below_alloc | apply pw_below_drewN | apply below_drew1) | exact HB.out)⟩
  · as_aux_lemma =>
    replace c3 := Bool.eq_false_iff.mpr c3
    subst c3
    have H1 : ((spec_DrawLeastPeak.f k l0).bind fun bt442 => ((impl_LeastPeak.f k bt442.1 bt442.2.1 bt442.2.2).bind fun bt447 => ((spec_LeastPeak.f k bt442.1 bt442.2.1 bt442.2.2).bind fun bt449 => ((spec_DrawLeastLimit.f k l0).bind fun bt451 => ((impl_LeastLimit.f k bt451.1 bt451.2).bind fun bt455 => ((spec_LeastLimit.f k bt451.1 bt451.2).bind fun bt457 => ((spec_DrawCountLoadings.f k l0).bind fun bt459 => ((impl_CountLoadings.f k bt459.1 bt459.2.1 bt459.2.2).bind fun bt464 => ((spec_CountLoadings.f k bt459.1 bt459.2.1 bt459.2.2).bind fun bt466 => ((spec_DrawPeakOf.f k l0).bind fun bt468 => ((impl_PeakOf.f k bt468.1 bt468.2.1 bt468.2.2).bind fun bt475 => ((impl_IsLoading.f k bt468.1 bt468.2.1 bt468.2.2).bind fun bt477 => ((spec_PeakOf.f k bt468.1 bt468.2.1 bt468.2.2).bind fun bt479 => (if bt447.2 = bt449.2 then (if bt447.1 = bt449.1 then (if bt455.2 = bt457.2 then (if bt455.1 = bt457.1 then (if bt464.2 = bt466.2 then (if bt464.1 = bt466.1 then (if bt475.2 = bt479.2 then (laws_FnPeaks.j0 k bt442.1 bt442.2.1 bt442.2.2 bt447.1 bt447.2 bt451.1 bt451.2 bt455.1 bt455.2 bt468.2.1 bt475.1 bt475.2 bt477.1 bt477.2 (bt475.1 != bt479.1)) else (laws_FnPeaks.j0 k bt442.1 bt442.2.1 bt442.2.2 bt447.1 bt447.2 bt451.1 bt451.2 bt455.1 bt455.2 bt468.2.1 bt475.1 bt475.2 bt477.1 bt477.2 true)) else (laws_FnPeaks.j0 k bt442.1 bt442.2.1 bt442.2.2 bt447.1 bt447.2 bt451.1 bt451.2 bt455.1 bt455.2 bt468.2.1 bt475.1 bt475.2 bt477.1 bt477.2 true)) else (laws_FnPeaks.j0 k bt442.1 bt442.2.1 bt442.2.2 bt447.1 bt447.2 bt451.1 bt451.2 bt455.1 bt455.2 bt468.2.1 bt475.1 bt475.2 bt477.1 bt477.2 true)) else (laws_FnPeaks.j0 k bt442.1 bt442.2.1 bt442.2.2 bt447.1 bt447.2 bt451.1 bt451.2 bt455.1 bt455.2 bt468.2.1 bt475.1 bt475.2 bt477.1 bt477.2 true)) else (laws_FnPeaks.j0 k bt442.1 bt442.2.1 bt442.2.2 bt447.1 bt447.2 bt451.1 bt451.2 bt455.1 bt455.2 bt468.2.1 bt475.1 bt475.2 bt477.1 bt477.2 true)) else (laws_FnPeaks.j0 k bt442.1 bt442.2.1 bt442.2.2 bt447.1 bt447.2 bt451.1 bt451.2 bt455.1 bt455.2 bt468.2.1 bt475.1 bt475.2 bt477.1 bt477.2 true)) else (laws_FnPeaks.j0 k bt442.1 bt442.2.1 bt442.2.2 bt447.1 bt447.2 bt451.1 bt451.2 bt455.1 bt455.2 bt468.2.1 bt475.1 bt475.2 bt477.1 bt477.2 true))))))))))))))) = some r := by rw [if_neg (show ¬ (false = true) by decide)] at H; exact H
    clear H
    have H := H1
    clear H1
    replace H := Option.bind_eq_some_iff.mp H
    obtain ⟨⟨t442, t443, t444⟩, A40, H⟩ := H
    replace H : ((impl_LeastPeak.f k t442 t443 t444).bind fun bt447 => ((spec_LeastPeak.f k t442 t443 t444).bind fun bt449 => ((spec_DrawLeastLimit.f k l0).bind fun bt451 => ((impl_LeastLimit.f k bt451.1 bt451.2).bind fun bt455 => ((spec_LeastLimit.f k bt451.1 bt451.2).bind fun bt457 => ((spec_DrawCountLoadings.f k l0).bind fun bt459 => ((impl_CountLoadings.f k bt459.1 bt459.2.1 bt459.2.2).bind fun bt464 => ((spec_CountLoadings.f k bt459.1 bt459.2.1 bt459.2.2).bind fun bt466 => ((spec_DrawPeakOf.f k l0).bind fun bt468 => ((impl_PeakOf.f k bt468.1 bt468.2.1 bt468.2.2).bind fun bt475 => ((impl_IsLoading.f k bt468.1 bt468.2.1 bt468.2.2).bind fun bt477 => ((spec_PeakOf.f k bt468.1 bt468.2.1 bt468.2.2).bind fun bt479 => (if bt447.2 = bt449.2 then (if bt447.1 = bt449.1 then (if bt455.2 = bt457.2 then (if bt455.1 = bt457.1 then (if bt464.2 = bt466.2 then (if bt464.1 = bt466.1 then (if bt475.2 = bt479.2 then (laws_FnPeaks.j0 k t442 t443 t444 bt447.1 bt447.2 bt451.1 bt451.2 bt455.1 bt455.2 bt468.2.1 bt475.1 bt475.2 bt477.1 bt477.2 (bt475.1 != bt479.1)) else (laws_FnPeaks.j0 k t442 t443 t444 bt447.1 bt447.2 bt451.1 bt451.2 bt455.1 bt455.2 bt468.2.1 bt475.1 bt475.2 bt477.1 bt477.2 true)) else (laws_FnPeaks.j0 k t442 t443 t444 bt447.1 bt447.2 bt451.1 bt451.2 bt455.1 bt455.2 bt468.2.1 bt475.1 bt475.2 bt477.1 bt477.2 true)) else (laws_FnPeaks.j0 k t442 t443 t444 bt447.1 bt447.2 bt451.1 bt451.2 bt455.1 bt455.2 bt468.2.1 bt475.1 bt475.2 bt477.1 bt477.2 true)) else (laws_FnPeaks.j0 k t442 t443 t444 bt447.1 bt447.2 bt451.1 bt451.2 bt455.1 bt455.2 bt468.2.1 bt475.1 bt475.2 bt477.1 bt477.2 true)) else (laws_FnPeaks.j0 k t442 t443 t444 bt447.1 bt447.2 bt451.1 bt451.2 bt455.1 bt455.2 bt468.2.1 bt475.1 bt475.2 bt477.1 bt477.2 true)) else (laws_FnPeaks.j0 k t442 t443 t444 bt447.1 bt447.2 bt451.1 bt451.2 bt455.1 bt455.2 bt468.2.1 bt475.1 bt475.2 bt477.1 bt477.2 true)) else (laws_FnPeaks.j0 k t442 t443 t444 bt447.1 bt447.2 bt451.1 bt451.2 bt455.1 bt455.2 bt468.2.1 bt475.1 bt475.2 bt477.1 bt477.2 true)))))))))))))) = some r := H
    have A4 := Aside0.mk A40
    clear A40
    replace H := Option.bind_eq_some_iff.mp H
    obtain ⟨⟨t447, t448⟩, A50, H⟩ := H
    replace H : ((spec_LeastPeak.f k t442 t443 t444).bind fun bt449 => ((spec_DrawLeastLimit.f k l0).bind fun bt451 => ((impl_LeastLimit.f k bt451.1 bt451.2).bind fun bt455 => ((spec_LeastLimit.f k bt451.1 bt451.2).bind fun bt457 => ((spec_DrawCountLoadings.f k l0).bind fun bt459 => ((impl_CountLoadings.f k bt459.1 bt459.2.1 bt459.2.2).bind fun bt464 => ((spec_CountLoadings.f k bt459.1 bt459.2.1 bt459.2.2).bind fun bt466 => ((spec_DrawPeakOf.f k l0).bind fun bt468 => ((impl_PeakOf.f k bt468.1 bt468.2.1 bt468.2.2).bind fun bt475 => ((impl_IsLoading.f k bt468.1 bt468.2.1 bt468.2.2).bind fun bt477 => ((spec_PeakOf.f k bt468.1 bt468.2.1 bt468.2.2).bind fun bt479 => (if t448 = bt449.2 then (if t447 = bt449.1 then (if bt455.2 = bt457.2 then (if bt455.1 = bt457.1 then (if bt464.2 = bt466.2 then (if bt464.1 = bt466.1 then (if bt475.2 = bt479.2 then (laws_FnPeaks.j0 k t442 t443 t444 t447 t448 bt451.1 bt451.2 bt455.1 bt455.2 bt468.2.1 bt475.1 bt475.2 bt477.1 bt477.2 (bt475.1 != bt479.1)) else (laws_FnPeaks.j0 k t442 t443 t444 t447 t448 bt451.1 bt451.2 bt455.1 bt455.2 bt468.2.1 bt475.1 bt475.2 bt477.1 bt477.2 true)) else (laws_FnPeaks.j0 k t442 t443 t444 t447 t448 bt451.1 bt451.2 bt455.1 bt455.2 bt468.2.1 bt475.1 bt475.2 bt477.1 bt477.2 true)) else (laws_FnPeaks.j0 k t442 t443 t444 t447 t448 bt451.1 bt451.2 bt455.1 bt455.2 bt468.2.1 bt475.1 bt475.2 bt477.1 bt477.2 true)) else (laws_FnPeaks.j0 k t442 t443 t444 t447 t448 bt451.1 bt451.2 bt455.1 bt455.2 bt468.2.1 bt475.1 bt475.2 bt477.1 bt477.2 true)) else (laws_FnPeaks.j0 k t442 t443 t444 t447 t448 bt451.1 bt451.2 bt455.1 bt455.2 bt468.2.1 bt475.1 bt475.2 bt477.1 bt477.2 true)) else (laws_FnPeaks.j0 k t442 t443 t444 t447 t448 bt451.1 bt451.2 bt455.1 bt455.2 bt468.2.1 bt475.1 bt475.2 bt477.1 bt477.2 true)) else (laws_FnPeaks.j0 k t442 t443 t444 t447 t448 bt451.1 bt451.2 bt455.1 bt455.2 bt468.2.1 bt475.1 bt475.2 bt477.1 bt477.2 true))))))))))))) = some r := H
    have A5 := Aside0.mk A50
    clear A50
    replace H := Option.bind_eq_some_iff.mp H
    obtain ⟨⟨t449, t450⟩, A60, H⟩ := H
    replace H : ((spec_DrawLeastLimit.f k l0).bind fun bt451 => ((impl_LeastLimit.f k bt451.1 bt451.2).bind fun bt455 => ((spec_LeastLimit.f k bt451.1 bt451.2).bind fun bt457 => ((spec_DrawCountLoadings.f k l0).bind fun bt459 => ((impl_CountLoadings.f k bt459.1 bt459.2.1 bt459.2.2).bind fun bt464 => ((spec_CountLoadings.f k bt459.1 bt459.2.1 bt459.2.2).bind fun bt466 => ((spec_DrawPeakOf.f k l0).bind fun bt468 => ((impl_PeakOf.f k bt468.1 bt468.2.1 bt468.2.2).bind fun bt475 => ((impl_IsLoading.f k bt468.1 bt468.2.1 bt468.2.2).bind fun bt477 => ((spec_PeakOf.f k bt468.1 bt468.2.1 bt468.2.2).bind fun bt479 => (if t448 = t450 then (if t447 = t449 then (if bt455.2 = bt457.2 then (if bt455.1 = bt457.1 then (if bt464.2 = bt466.2 then (if bt464.1 = bt466.1 then (if bt475.2 = bt479.2 then (laws_FnPeaks.j0 k t442 t443 t444 t447 t448 bt451.1 bt451.2 bt455.1 bt455.2 bt468.2.1 bt475.1 bt475.2 bt477.1 bt477.2 (bt475.1 != bt479.1)) else (laws_FnPeaks.j0 k t442 t443 t444 t447 t448 bt451.1 bt451.2 bt455.1 bt455.2 bt468.2.1 bt475.1 bt475.2 bt477.1 bt477.2 true)) else (laws_FnPeaks.j0 k t442 t443 t444 t447 t448 bt451.1 bt451.2 bt455.1 bt455.2 bt468.2.1 bt475.1 bt475.2 bt477.1 bt477.2 true)) else (laws_FnPeaks.j0 k t442 t443 t444 t447 t448 bt451.1 bt451.2 bt455.1 bt455.2 bt468.2.1 bt475.1 bt475.2 bt477.1 bt477.2 true)) else (laws_FnPeaks.j0 k t442 t443 t444 t447 t448 bt451.1 bt451.2 bt455.1 bt455.2 bt468.2.1 bt475.1 bt475.2 bt477.1 bt477.2 true)) else (laws_FnPeaks.j0 k t442 t443 t444 t447 t448 bt451.1 bt451.2 bt455.1 bt455.2 bt468.2.1 bt475.1 bt475.2 bt477.1 bt477.2 true)) else (laws_FnPeaks.j0 k t442 t443 t444 t447 t448 bt451.1 bt451.2 bt455.1 bt455.2 bt468.2.1 bt475.1 bt475.2 bt477.1 bt477.2 true)) else (laws_FnPeaks.j0 k t442 t443 t444 t447 t448 bt451.1 bt451.2 bt455.1 bt455.2 bt468.2.1 bt475.1 bt475.2 bt477.1 bt477.2 true)))))))))))) = some r := H
    have A6 := Aside0.mk A60
    clear A60
    replace H := Option.bind_eq_some_iff.mp H
    obtain ⟨⟨t451, t452⟩, A70, H⟩ := H
    replace H : ((impl_LeastLimit.f k t451 t452).bind fun bt455 => ((spec_LeastLimit.f k t451 t452).bind fun bt457 => ((spec_DrawCountLoadings.f k l0).bind fun bt459 => ((impl_CountLoadings.f k bt459.1 bt459.2.1 bt459.2.2).bind fun bt464 => ((spec_CountLoadings.f k bt459.1 bt459.2.1 bt459.2.2).bind fun bt466 => ((spec_DrawPeakOf.f k l0).bind fun bt468 => ((impl_PeakOf.f k bt468.1 bt468.2.1 bt468.2.2).bind fun bt475 => ((impl_IsLoading.f k bt468.1 bt468.2.1 bt468.2.2).bind fun bt477 => ((spec_PeakOf.f k bt468.1 bt468.2.1 bt468.2.2).bind fun bt479 => (if t448 = t450 then (if t447 = t449 then (if bt455.2 = bt457.2 then (if bt455.1 = bt457.1 then (if bt464.2 = bt466.2 then (if bt464.1 = bt466.1 then (if bt475.2 = bt479.2 then (laws_FnPeaks.j0 k t442 t443 t444 t447 t448 t451 t452 bt455.1 bt455.2 bt468.2.1 bt475.1 bt475.2 bt477.1 bt477.2 (bt475.1 != bt479.1)) else (laws_FnPeaks.j0 k t442 t443 t444 t447 t448 t451 t452 bt455.1 bt455.2 bt468.2.1 bt475.1 bt475.2 bt477.1 bt477.2 true)) else (laws_FnPeaks.j0 k t442 t443 t444 t447 t448 t451 t452 bt455.1 bt455.2 bt468.2.1 bt475.1 bt475.2 bt477.1 bt477.2 true)) else (laws_FnPeaks.j0 k t442 t443 t444 t447 t448 t451 t452 bt455.1 bt455.2 bt468.2.1 bt475.1 bt475.2 bt477.1 bt477.2 true)) else (laws_FnPeaks.j0 k t442 t443 t444 t447 t448 t451 t452 bt455.1 bt455.2 bt468.2.1 bt475.1 bt475.2 bt477.1 bt477.2 true)) else (laws_FnPeaks.j0 k t442 t443 t444 t447 t448 t451 t452 bt455.1 bt455.2 bt468.2.1 bt475.1 bt475.2 bt477.1 bt477.2 true)) else (laws_FnPeaks.j0 k t442 t443 t444 t447 t448 t451 t452 bt455.1 bt455.2 bt468.2.1 bt475.1 bt475.2 bt477.1 bt477.2 true)) else (laws_FnPeaks.j0 k t442 t443 t444 t447 t448 t451 t452 bt455.1 bt455.2 bt468.2.1 bt475.1 bt475.2 bt477.1 bt477.2 true))))))))))) = some r := H
    have A7 := Aside0.mk A70
    clear A70
    replace H := Option.bind_eq_some_iff.mp H
    obtain ⟨⟨t455, t456⟩, A80, H⟩ := H
    replace H : ((spec_LeastLimit.f k t451 t452).bind fun bt457 => ((spec_DrawCountLoadings.f k l0).bind fun bt459 => ((impl_CountLoadings.f k bt459.1 bt459.2.1 bt459.2.2).bind fun bt464 => ((spec_CountLoadings.f k bt459.1 bt459.2.1 bt459.2.2).bind fun bt466 => ((spec_DrawPeakOf.f k l0).bind fun bt468 => ((impl_PeakOf.f k bt468.1 bt468.2.1 bt468.2.2).bind fun bt475 => ((impl_IsLoading.f k bt468.1 bt468.2.1 bt468.2.2).bind fun bt477 => ((spec_PeakOf.f k bt468.1 bt468.2.1 bt468.2.2).bind fun bt479 => (if t448 = t450 then (if t447 = t449 then (if t456 = bt457.2 then (if t455 = bt457.1 then (if bt464.2 = bt466.2 then (if bt464.1 = bt466.1 then (if bt475.2 = bt479.2 then (laws_FnPeaks.j0 k t442 t443 t444 t447 t448 t451 t452 t455 t456 bt468.2.1 bt475.1 bt475.2 bt477.1 bt477.2 (bt475.1 != bt479.1)) else (laws_FnPeaks.j0 k t442 t443 t444 t447 t448 t451 t452 t455 t456 bt468.2.1 bt475.1 bt475.2 bt477.1 bt477.2 true)) else (laws_FnPeaks.j0 k t442 t443 t444 t447 t448 t451 t452 t455 t456 bt468.2.1 bt475.1 bt475.2 bt477.1 bt477.2 true)) else (laws_FnPeaks.j0 k t442 t443 t444 t447 t448 t451 t452 t455 t456 bt468.2.1 bt475.1 bt475.2 bt477.1 bt477.2 true)) else (laws_FnPeaks.j0 k t442 t443 t444 t447 t448 t451 t452 t455 t456 bt468.2.1 bt475.1 bt475.2 bt477.1 bt477.2 true)) else (laws_FnPeaks.j0 k t442 t443 t444 t447 t448 t451 t452 t455 t456 bt468.2.1 bt475.1 bt475.2 bt477.1 bt477.2 true)) else (laws_FnPeaks.j0 k t442 t443 t444 t447 t448 t451 t452 t455 t456 bt468.2.1 bt475.1 bt475.2 bt477.1 bt477.2 true)) else (laws_FnPeaks.j0 k t442 t443 t444 t447 t448 t451 t452 t455 t456 bt468.2.1 bt475.1 bt475.2 bt477.1 bt477.2 true)))))))))) = some r := H
    have A8 := Aside0.mk A80
    clear A80
    replace H := Option.bind_eq_some_iff.mp H
    obtain ⟨⟨t457, t458⟩, A90, H⟩ := H
    replace H : ((spec_DrawCountLoadings.f k l0).bind fun bt459 => ((impl_CountLoadings.f k bt459.1 bt459.2.1 bt459.2.2).bind fun bt464 => ((spec_CountLoadings.f k bt459.1 bt459.2.1 bt459.2.2).bind fun bt466 => ((spec_DrawPeakOf.f k l0).bind fun bt468 => ((impl_PeakOf.f k bt468.1 bt468.2.1 bt468.2.2).bind fun bt475 => ((impl_IsLoading.f k bt468.1 bt468.2.1 bt468.2.2).bind fun bt477 => ((spec_PeakOf.f k bt468.1 bt468.2.1 bt468.2.2).bind fun bt479 => (if t448 = t450 then (if t447 = t449 then (if t456 = t458 then (if t455 = t457 then (if bt464.2 = bt466.2 then (if bt464.1 = bt466.1 then (if bt475.2 = bt479.2 then (laws_FnPeaks.j0 k t442 t443 t444 t447 t448 t451 t452 t455 t456 bt468.2.1 bt475.1 bt475.2 bt477.1 bt477.2 (bt475.1 != bt479.1)) else (laws_FnPeaks.j0 k t442 t443 t444 t447 t448 t451 t452 t455 t456 bt468.2.1 bt475.1 bt475.2 bt477.1 bt477.2 true)) else (laws_FnPeaks.j0 k t442 t443 t444 t447 t448 t451 t452 t455 t456 bt468.2.1 bt475.1 bt475.2 bt477.1 bt477.2 true)) else (laws_FnPeaks.j0 k t442 t443 t444 t447 t448 t451 t452 t455 t456 bt468.2.1 bt475.1 bt475.2 bt477.1 bt477.2 true)) else (laws_FnPeaks.j0 k t442 t443 t444 t447 t448 t451 t452 t455 t456 bt468.2.1 bt475.1 bt475.2 bt477.1 bt477.2 true)) else (laws_FnPeaks.j0 k t442 t443 t444 t447 t448 t451 t452 t455 t456 bt468.2.1 bt475.1 bt475.2 bt477.1 bt477.2 true)) else (laws_FnPeaks.j0 k t442 t443 t444 t447 t448 t451 t452 t455 t456 bt468.2.1 bt475.1 bt475.2 bt477.1 bt477.2 true)) else (laws_FnPeaks.j0 k t442 t443 t444 t447 t448 t451 t452 t455 t456 bt468.2.1 bt475.1 bt475.2 bt477.1 bt477.2 true))))))))) = some r := H
    have A9 := Aside0.mk A90
    clear A90
    replace H := Option.bind_eq_some_iff.mp H
    obtain ⟨⟨t459, t460, t461⟩, A100, H⟩ := H
    replace H : ((impl_CountLoadings.f k t459 t460 t461).bind fun bt464 => ((spec_CountLoadings.f k t459 t460 t461).bind fun bt466 => ((spec_DrawPeakOf.f k l0).bind fun bt468 => ((impl_PeakOf.f k bt468.1 bt468.2.1 bt468.2.2).bind fun bt475 => ((impl_IsLoading.f k bt468.1 bt468.2.1 bt468.2.2).bind fun bt477 => ((spec_PeakOf.f k bt468.1 bt468.2.1 bt468.2.2).bind fun bt479 => (if t448 = t450 then (if t447 = t449 then (if t456 = t458 then (if t455 = t457 then (if bt464.2 = bt466.2 then (if bt464.1 = bt466.1 then (if bt475.2 = bt479.2 then (laws_FnPeaks.j0 k t442 t443 t444 t447 t448 t451 t452 t455 t456 bt468.2.1 bt475.1 bt475.2 bt477.1 bt477.2 (bt475.1 != bt479.1)) else (laws_FnPeaks.j0 k t442 t443 t444 t447 t448 t451 t452 t455 t456 bt468.2.1 bt475.1 bt475.2 bt477.1 bt477.2 true)) else (laws_FnPeaks.j0 k t442 t443 t444 t447 t448 t451 t452 t455 t456 bt468.2.1 bt475.1 bt475.2 bt477.1 bt477.2 true)) else (laws_FnPeaks.j0 k t442 t443 t444 t447 t448 t451 t452 t455 t456 bt468.2.1 bt475.1 bt475.2 bt477.1 bt477.2 true)) else (laws_FnPeaks.j0 k t442 t443 t444 t447 t448 t451 t452 t455 t456 bt468.2.1 bt475.1 bt475.2 bt477.1 bt477.2 true)) else (laws_FnPeaks.j0 k t442 t443 t444 t447 t448 t451 t452 t455 t456 bt468.2.1 bt475.1 bt475.2 bt477.1 bt477.2 true)) else (laws_FnPeaks.j0 k t442 t443 t444 t447 t448 t451 t452 t455 t456 bt468.2.1 bt475.1 bt475.2 bt477.1 bt477.2 true)) else (laws_FnPeaks.j0 k t442 t443 t444 t447 t448 t451 t452 t455 t456 bt468.2.1 bt475.1 bt475.2 bt477.1 bt477.2 true)))))))) = some r := H
    have A10 := Aside0.mk A100
    clear A100
    replace H := Option.bind_eq_some_iff.mp H
    obtain ⟨⟨t464, t465⟩, A110, H⟩ := H
    replace H : ((spec_CountLoadings.f k t459 t460 t461).bind fun bt466 => ((spec_DrawPeakOf.f k l0).bind fun bt468 => ((impl_PeakOf.f k bt468.1 bt468.2.1 bt468.2.2).bind fun bt475 => ((impl_IsLoading.f k bt468.1 bt468.2.1 bt468.2.2).bind fun bt477 => ((spec_PeakOf.f k bt468.1 bt468.2.1 bt468.2.2).bind fun bt479 => (if t448 = t450 then (if t447 = t449 then (if t456 = t458 then (if t455 = t457 then (if t465 = bt466.2 then (if t464 = bt466.1 then (if bt475.2 = bt479.2 then (laws_FnPeaks.j0 k t442 t443 t444 t447 t448 t451 t452 t455 t456 bt468.2.1 bt475.1 bt475.2 bt477.1 bt477.2 (bt475.1 != bt479.1)) else (laws_FnPeaks.j0 k t442 t443 t444 t447 t448 t451 t452 t455 t456 bt468.2.1 bt475.1 bt475.2 bt477.1 bt477.2 true)) else (laws_FnPeaks.j0 k t442 t443 t444 t447 t448 t451 t452 t455 t456 bt468.2.1 bt475.1 bt475.2 bt477.1 bt477.2 true)) else (laws_FnPeaks.j0 k t442 t443 t444 t447 t448 t451 t452 t455 t456 bt468.2.1 bt475.1 bt475.2 bt477.1 bt477.2 true)) else (laws_FnPeaks.j0 k t442 t443 t444 t447 t448 t451 t452 t455 t456 bt468.2.1 bt475.1 bt475.2 bt477.1 bt477.2 true)) else (laws_FnPeaks.j0 k t442 t443 t444 t447 t448 t451 t452 t455 t456 bt468.2.1 bt475.1 bt475.2 bt477.1 bt477.2 true)) else (laws_FnPeaks.j0 k t442 t443 t444 t447 t448 t451 t452 t455 t456 bt468.2.1 bt475.1 bt475.2 bt477.1 bt477.2 true)) else (laws_FnPeaks.j0 k t442 t443 t444 t447 t448 t451 t452 t455 t456 bt468.2.1 bt475.1 bt475.2 bt477.1 bt477.2 true))))))) = some r := H
    have A11 := Aside0.mk A110
    clear A110
    replace H := Option.bind_eq_some_iff.mp H
    obtain ⟨⟨t466, t467⟩, A120, H⟩ := H
    replace H : ((spec_DrawPeakOf.f k l0).bind fun bt468 => ((impl_PeakOf.f k bt468.1 bt468.2.1 bt468.2.2).bind fun bt475 => ((impl_IsLoading.f k bt468.1 bt468.2.1 bt468.2.2).bind fun bt477 => ((spec_PeakOf.f k bt468.1 bt468.2.1 bt468.2.2).bind fun bt479 => (if t448 = t450 then (if t447 = t449 then (if t456 = t458 then (if t455 = t457 then (if t465 = t467 then (if t464 = t466 then (if bt475.2 = bt479.2 then (laws_FnPeaks.j0 k t442 t443 t444 t447 t448 t451 t452 t455 t456 bt468.2.1 bt475.1 bt475.2 bt477.1 bt477.2 (bt475.1 != bt479.1)) else (laws_FnPeaks.j0 k t442 t443 t444 t447 t448 t451 t452 t455 t456 bt468.2.1 bt475.1 bt475.2 bt477.1 bt477.2 true)) else (laws_FnPeaks.j0 k t442 t443 t444 t447 t448 t451 t452 t455 t456 bt468.2.1 bt475.1 bt475.2 bt477.1 bt477.2 true)) else (laws_FnPeaks.j0 k t442 t443 t444 t447 t448 t451 t452 t455 t456 bt468.2.1 bt475.1 bt475.2 bt477.1 bt477.2 true)) else (laws_FnPeaks.j0 k t442 t443 t444 t447 t448 t451 t452 t455 t456 bt468.2.1 bt475.1 bt475.2 bt477.1 bt477.2 true)) else (laws_FnPeaks.j0 k t442 t443 t444 t447 t448 t451 t452 t455 t456 bt468.2.1 bt475.1 bt475.2 bt477.1 bt477.2 true)) else (laws_FnPeaks.j0 k t442 t443 t444 t447 t448 t451 t452 t455 t456 bt468.2.1 bt475.1 bt475.2 bt477.1 bt477.2 true)) else (laws_FnPeaks.j0 k t442 t443 t444 t447 t448 t451 t452 t455 t456 bt468.2.1 bt475.1 bt475.2 bt477.1 bt477.2 true)))))) = some r := H
    have A12 := Aside0.mk A120
    clear A120
    replace H := Option.bind_eq_some_iff.mp H
    obtain ⟨⟨t468, t471, t472⟩, A130, H⟩ := H
    replace H : ((impl_PeakOf.f k t468 t471 t472).bind fun bt475 => ((impl_IsLoading.f k t468 t471 t472).bind fun bt477 => ((spec_PeakOf.f k t468 t471 t472).bind fun bt479 => (if t448 = t450 then (if t447 = t449 then (if t456 = t458 then (if t455 = t457 then (if t465 = t467 then (if t464 = t466 then (if bt475.2 = bt479.2 then (laws_FnPeaks.j0 k t442 t443 t444 t447 t448 t451 t452 t455 t456 t471 bt475.1 bt475.2 bt477.1 bt477.2 (bt475.1 != bt479.1)) else (laws_FnPeaks.j0 k t442 t443 t444 t447 t448 t451 t452 t455 t456 t471 bt475.1 bt475.2 bt477.1 bt477.2 true)) else (laws_FnPeaks.j0 k t442 t443 t444 t447 t448 t451 t452 t455 t456 t471 bt475.1 bt475.2 bt477.1 bt477.2 true)) else (laws_FnPeaks.j0 k t442 t443 t444 t447 t448 t451 t452 t455 t456 t471 bt475.1 bt475.2 bt477.1 bt477.2 true)) else (laws_FnPeaks.j0 k t442 t443 t444 t447 t448 t451 t452 t455 t456 t471 bt475.1 bt475.2 bt477.1 bt477.2 true)) else (laws_FnPeaks.j0 k t442 t443 t444 t447 t448 t451 t452 t455 t456 t471 bt475.1 bt475.2 bt477.1 bt477.2 true)) else (laws_FnPeaks.j0 k t442 t443 t444 t447 t448 t451 t452 t455 t456 t471 bt475.1 bt475.2 bt477.1 bt477.2 true)) else (laws_FnPeaks.j0 k t442 t443 t444 t447 t448 t451 t452 t455 t456 t471 bt475.1 bt475.2 bt477.1 bt477.2 true))))) = some r := H
    have A13 := Aside0.mk A130
    clear A130
    replace H := Option.bind_eq_some_iff.mp H
    obtain ⟨⟨t475, t476⟩, A140, H⟩ := H
    replace H : ((impl_IsLoading.f k t468 t471 t472).bind fun bt477 => ((spec_PeakOf.f k t468 t471 t472).bind fun bt479 => (if t448 = t450 then (if t447 = t449 then (if t456 = t458 then (if t455 = t457 then (if t465 = t467 then (if t464 = t466 then (if t476 = bt479.2 then (laws_FnPeaks.j0 k t442 t443 t444 t447 t448 t451 t452 t455 t456 t471 t475 t476 bt477.1 bt477.2 (t475 != bt479.1)) else (laws_FnPeaks.j0 k t442 t443 t444 t447 t448 t451 t452 t455 t456 t471 t475 t476 bt477.1 bt477.2 true)) else (laws_FnPeaks.j0 k t442 t443 t444 t447 t448 t451 t452 t455 t456 t471 t475 t476 bt477.1 bt477.2 true)) else (laws_FnPeaks.j0 k t442 t443 t444 t447 t448 t451 t452 t455 t456 t471 t475 t476 bt477.1 bt477.2 true)) else (laws_FnPeaks.j0 k t442 t443 t444 t447 t448 t451 t452 t455 t456 t471 t475 t476 bt477.1 bt477.2 true)) else (laws_FnPeaks.j0 k t442 t443 t444 t447 t448 t451 t452 t455 t456 t471 t475 t476 bt477.1 bt477.2 true)) else (laws_FnPeaks.j0 k t442 t443 t444 t447 t448 t451 t452 t455 t456 t471 t475 t476 bt477.1 bt477.2 true)) else (laws_FnPeaks.j0 k t442 t443 t444 t447 t448 t451 t452 t455 t456 t471 t475 t476 bt477.1 bt477.2 true)))) = some r := H
    have A14 := Aside0.mk A140
    clear A140
    replace H := Option.bind_eq_some_iff.mp H
    obtain ⟨⟨t477, t478⟩, A150, H⟩ := H
    replace H : ((spec_PeakOf.f k t468 t471 t472).bind fun bt479 => (if t448 = t450 then (if t447 = t449 then (if t456 = t458 then (if t455 = t457 then (if t465 = t467 then (if t464 = t466 then (if t476 = bt479.2 then (laws_FnPeaks.j0 k t442 t443 t444 t447 t448 t451 t452 t455 t456 t471 t475 t476 t477 t478 (t475 != bt479.1)) else (laws_FnPeaks.j0 k t442 t443 t444 t447 t448 t451 t452 t455 t456 t471 t475 t476 t477 t478 true)) else (laws_FnPeaks.j0 k t442 t443 t444 t447 t448 t451 t452 t455 t456 t471 t475 t476 t477 t478 true)) else (laws_FnPeaks.j0 k t442 t443 t444 t447 t448 t451 t452 t455 t456 t471 t475 t476 t477 t478 true)) else (laws_FnPeaks.j0 k t442 t443 t444 t447 t448 t451 t452 t455 t456 t471 t475 t476 t477 t478 true)) else (laws_FnPeaks.j0 k t442 t443 t444 t447 t448 t451 t452 t455 t456 t471 t475 t476 t477 t478 true)) else (laws_FnPeaks.j0 k t442 t443 t444 t447 t448 t451 t452 t455 t456 t471 t475 t476 t477 t478 true)) else (laws_FnPeaks.j0 k t442 t443 t444 t447 t448 t451 t452 t455 t456 t471 t475 t476 t477 t478 true))) = some r := H
    have A15 := Aside0.mk A150
    clear A150
    replace H := Option.bind_eq_some_iff.mp H
    obtain ⟨⟨t479, t480⟩, A160, H⟩ := H
    replace H : (if t448 = t450 then (if t447 = t449 then (if t456 = t458 then (if t455 = t457 then (if t465 = t467 then (if t464 = t466 then (if t476 = t480 then (laws_FnPeaks.j0 k t442 t443 t444 t447 t448 t451 t452 t455 t456 t471 t475 t476 t477 t478 (t475 != t479)) else (laws_FnPeaks.j0 k t442 t443 t444 t447 t448 t451 t452 t455 t456 t471 t475 t476 t477 t478 true)) else (laws_FnPeaks.j0 k t442 t443 t444 t447 t448 t451 t452 t455 t456 t471 t475 t476 t477 t478 true)) else (laws_FnPeaks.j0 k t442 t443 t444 t447 t448 t451 t452 t455 t456 t471 t475 t476 t477 t478 true)) else (laws_FnPeaks.j0 k t442 t443 t444 t447 t448 t451 t452 t455 t456 t471 t475 t476 t477 t478 true)) else (laws_FnPeaks.j0 k t442 t443 t444 t447 t448 t451 t452 t455 t456 t471 t475 t476 t477 t478 true)) else (laws_FnPeaks.j0 k t442 t443 t444 t447 t448 t451 t452 t455 t456 t471 t475 t476 t477 t478 true)) else (laws_FnPeaks.j0 k t442 t443 t444 t447 t448 t451 t452 t455 t456 t471 t475 t476 t477 t478 true)) = some r := H
    have A16 := Aside0.mk A160
    clear A160
    have HC17 := Aside0.mk H
    clear H
    go_enter Try.func12, Try.ntmps12
    go_upto_region 16 with (first | ((with_reducible refine gate_callee (f := 38) rfl ?_); refine goesL_ (some 39) rfl rfl Try.func38 (by kernel_rfl) rfl #[.slice A0 l0.length c0] rfl (by (try simp only [List.map_toArray, List.map_cons, List.map_nil]); first | done | rfl | (simp only [List.length_drop, List.length_take]; rfl)) ?_; (with_reducible refine (laws_big.calls _ _ l0 false _ ?side1 ?side2 A2.out).mono ?_); (case side1 => repeat (first | exact HR0.out | (with_reducible refine Kd.C_alloc ?_ _) | (with_reducible refine Kd.C_drewN ?_ _) | (with_reducible refine Kd.C_drew ?_))); (case side2 => exact HC0.out); rintro e w' ⟨rfl, ⟨nd, rfl⟩⟩; refine ⟨_, rfl, ?_⟩) | ((with_reducible refine gate_callee (f := 42) rfl ?_); refine goesL_ (some 42) rfl rfl Try.func42 (by kernel_rfl) rfl #[.slice A0 l0.length c0] rfl (by (try simp only [List.map_toArray, List.map_cons, List.map_nil]); first | done | rfl | (simp only [List.length_drop, List.length_take]; rfl)) ?_; (with_reducible refine (spec_DrawLeastPeak.calls k _ _ l0 t442 t443 t444 _ ?side1 ?side2 A4.out).mono ?_); (case side1 => repeat (first | exact HR0.out | (with_reducible refine Kd.C_alloc ?_ _) | (with_reducible refine Kd.C_drewN ?_ _) | (with_reducible refine Kd.C_drew ?_))); (case side2 => exact HC0.out); rintro e w18 ⟨v445, rfl, ho0, hb⟩; refine ⟨_, rfl, ?_⟩; have n0_ := Aside0.mk (Kd.R_lower ho0 (below_size (by repeat (first | (with_reducible first | exact HB.out | apply below_alloc | apply pw_below_drewN | apply below_drew1) | exact HB.out)))); have n1_ := Aside0.mk (below_step (by repeat (first | (with_reducible first | exact HB.out | apply below_alloc | apply pw_below_drewN | apply below_drew1) | exact HB.out)) hb); clear HB; have HO446 := n0_; have HB := n1_; clear n0_ n1_; (try clear hb); (try clear hb2); (try clear hk); (try clear hi); (try clear ho0); obtain ⟨Ao19, co19, eo19⟩ := Kd.R_slice HO446.out; subst eo19) | ((with_reducible refine gate_callee (f := 29) rfl ?_); refine goesL_ (some 50) rfl rfl Try.func29 (by kernel_rfl) rfl #[.slice Ao19 t442.length co19, .int .i64 t443, .int .i64 t444] rfl (by (try simp only [List.map_toArray, List.map_cons, List.map_nil]); first | done | rfl | (simp only [List.length_drop, List.length_take]; rfl)) ?_; (with_reducible refine (impl_LeastPeak.calls k _ _ t442 t443 t444 t447 t448 _ ?side1 ?side2 A5.out).mono ?_); (case side1 => repeat (first | exact (Kd.R_reads' HO446.out).2.2 | (with_reducible refine Kd.C_alloc ?_ _) | (with_reducible refine Kd.C_drewN ?_ _) | (with_reducible refine Kd.C_drew ?_))); (case side2 => exact (Kd.R_reads' HO446.out).2.1); rintro e w20 ⟨rfl, hb⟩; refine ⟨_, rfl, ?_⟩; have n0_ := Aside0.mk (Kd.R_below (by (with_reducible repeat (first | apply Kd.R_alloc | apply Kd.R_drewN | apply Kd.R_drew)); exact HO446.out) hb); have n1_ := Aside0.mk (below_step (by repeat (first | (with_reducible first | exact HB.out | apply below_alloc | apply pw_below_drewN | apply below_drew1) | exact HB.out)) hb); clear HO446; clear HB; have HO446 := n0_; have HB := n1_; clear n0_ n1_; (try clear hb); (try clear hb2); (try clear hk); (try clear hi)) | ((with_reducible refine gate_callee (f := 28) rfl ?_); refine goesL_ (some 57) rfl rfl Try.func28 (by kernel_rfl) rfl #[.slice Ao19 t442.length co19, .int .i64 t443, .int .i64 t444] rfl (by (try simp only [List.map_toArray, List.map_cons, List.map_nil]); first | done | rfl | (simp only [List.length_drop, List.length_take]; rfl)) ?_; (with_reducible refine (spec_LeastPeak.calls k _ _ t442 t443 t444 t449 t450 _ ?side1 ?side2 A6.out).mono ?_); (case side1 => repeat (first | exact (Kd.R_reads' HO446.out).2.2 | (with_reducible refine Kd.C_alloc ?_ _) | (with_reducible refine Kd.C_drewN ?_ _) | (with_reducible refine Kd.C_drew ?_))); (case side2 => exact (Kd.R_reads' HO446.out).2.1); rintro e w21 ⟨rfl, hb⟩; refine ⟨_, rfl, ?_⟩; have n0_ := Aside0.mk (Kd.R_below (by (with_reducible repeat (first | apply Kd.R_alloc | apply Kd.R_drewN | apply Kd.R_drew)); exact HO446.out) hb); have n1_ := Aside0.mk (below_step (by repeat (first | (with_reducible first | exact HB.out | apply below_alloc | apply pw_below_drewN | apply below_drew1) | exact HB.out)) hb); clear HO446; clear HB; have HO446 := n0_; have HB := n1_; clear n0_ n1_; (try clear hb); (try clear hb2); (try clear hk); (try clear hi)) | ((with_reducible refine gate_callee (f := 43) rfl ?_); refine goesL_ (some 62) rfl rfl Try.func43 (by kernel_rfl) rfl #[.slice A0 l0.length c0] rfl (by (try simp only [List.map_toArray, List.map_cons, List.map_nil]); first | done | rfl | (simp only [List.length_drop, List.length_take]; rfl)) ?_; (with_reducible refine (spec_DrawLeastLimit.calls k _ _ l0 t451 t452 _ ?side1 ?side2 A7.out).mono ?_); (case side1 => repeat (first | exact HR0.out | exact (Kd.C_below HR0.out HB.out) | (with_reducible refine Kd.C_alloc ?_ _) | (with_reducible refine Kd.C_drewN ?_ _) | (with_reducible refine Kd.C_drew ?_))); (case side2 => exact HC0.out); rintro e w22 ⟨v453, rfl, ho0, hb⟩; refine ⟨_, rfl, ?_⟩; have n0_ := Aside0.mk (Kd.R_elder' (by (with_reducible repeat (first | apply Kd.R_alloc | apply Kd.R_drewN | apply Kd.R_drew)); exact HO446.out) (Kd.R_base ho0) hb); have n1_ := Aside0.mk (Kd.R_lower (Kd.R_new' ho0 (Kd.R_lt (by (with_reducible repeat (first | apply Kd.R_alloc | apply Kd.R_drewN | apply Kd.R_drew)); exact HO446.out))) (below_size (by repeat (first | (with_reducible first | exact HB.out | apply below_alloc | apply pw_below_drewN | apply below_drew1) | exact HB.out)))); have n2_ := Aside0.mk (below_step (by repeat (first | (with_reducible first | exact HB.out | apply below_alloc | apply pw_below_drewN | apply below_drew1) | exact HB.out)) hb); clear HO446; clear HB; have HO446 := n0_; have HO454 := n1_; have HB := n2_; clear n0_ n1_ n2_; (try clear hb); (try clear hb2); (try clear hk); (try clear hi); (try clear ho0); obtain ⟨Ao23, co23, eo23⟩ := Kd.R_slice HO454.out; subst eo23) | ((with_reducible refine gate_callee (f := 27) rfl ?_); refine goesL_ (some 68) rfl rfl Try.func27 (by kernel_rfl) rfl #[.slice Ao23 t451.length co23, .int .i64 t452] rfl (by (try simp only [List.map_toArray, List.map_cons, List.map_nil]); first | done | rfl | (simp only [List.length_drop, List.length_take]; rfl)) ?_; (with_reducible refine (impl_LeastLimit.calls k _ _ t451 t452 t455 t456 _ ?side1 ?side2 A8.out).mono ?_); (case side1 => repeat (first | exact (Kd.R_reads' HO454.out).2.2 | (with_reducible refine Kd.C_alloc ?_ _) | (with_reducible refine Kd.C_drewN ?_ _) | (with_reducible refine Kd.C_drew ?_))); (case side2 => exact (Kd.R_reads' HO454.out).2.1); rintro e w24 ⟨rfl, hb⟩; refine ⟨_, rfl, ?_⟩; have n0_ := Aside0.mk (Kd.R_below (by (with_reducible repeat (first | apply Kd.R_alloc | apply Kd.R_drewN | apply Kd.R_drew)); exact HO446.out) hb); have n1_ := Aside0.mk (Kd.R_below (by (with_reducible repeat (first | apply Kd.R_alloc | apply Kd.R_drewN | apply Kd.R_drew)); exact HO454.out) hb); have n2_ := Aside0.mk (below_step (by repeat (first | (with_reducible first | exact HB.out | apply below_alloc | apply pw_below_drewN | apply below_drew1) | exact HB.out)) hb); clear HO446; clear HO454; clear HB; have HO446 := n0_; have HO454 := n1_; have HB := n2_; clear n0_ n1_ n2_; (try clear hb); (try clear hb2); (try clear hk); (try clear hi)) | ((with_reducible refine gate_callee (f := 26) rfl ?_); refine goesL_ (some 74) rfl rfl Try.func26 (by kernel_rfl) rfl #[.slice Ao23 t451.length co23, .int .i64 t452] rfl (by (try simp only [List.map_toArray, List.map_cons, List.map_nil]); first | done | rfl | (simp only [List.length_drop, List.length_take]; rfl)) ?_; (with_reducible refine (spec_LeastLimit.calls k _ _ t451 t452 t457 t458 _ ?side1 ?side2 A9.out).mono ?_); (case side1 => repeat (first | exact (Kd.R_reads' HO454.out).2.2 | (with_reducible refine Kd.C_alloc ?_ _) | (with_reducible refine Kd.C_drewN ?_ _) | (with_reducible refine Kd.C_drew ?_))); (case side2 => exact (Kd.R_reads' HO454.out).2.1); rintro e w25 ⟨rfl, hb⟩; refine ⟨_, rfl, ?_⟩; have n0_ := Aside0.mk (Kd.R_below (by (with_reducible repeat (first | apply Kd.R_alloc | apply Kd.R_drewN | apply Kd.R_drew)); exact HO446.out) hb); have n1_ := Aside0.mk (Kd.R_below (by (with_reducible repeat (first | apply Kd.R_alloc | apply Kd.R_drewN | apply Kd.R_drew)); exact HO454.out) hb); have n2_ := Aside0.mk (below_step (by repeat (first | (with_reducible first | exact HB.out | apply below_alloc | apply pw_below_drewN | apply below_drew1) | exact HB.out)) hb); clear HO446; clear HO454; clear HB; have HO446 := n0_; have HO454 := n1_; have HB := n2_; clear n0_ n1_ n2_; (try clear hb); (try clear hb2); (try clear hk); (try clear hi)) | ((with_reducible refine gate_callee (f := 44) rfl ?_); refine goesL_ (some 79) rfl rfl Try.func44 (by kernel_rfl) rfl #[.slice A0 l0.length c0] rfl (by (try simp only [List.map_toArray, List.map_cons, List.map_nil]); first | done | rfl | (simp only [List.length_drop, List.length_take]; rfl)) ?_; (with_reducible refine (spec_DrawCountLoadings.calls k _ _ l0 t459 t460 t461 _ ?side1 ?side2 A10.out).mono ?_); (case side1 => repeat (first | exact HR0.out | exact (Kd.C_below HR0.out HB.out) | (with_reducible refine Kd.C_alloc ?_ _) | (with_reducible refine Kd.C_drewN ?_ _) | (with_reducible refine Kd.C_drew ?_))); (case side2 => exact HC0.out); rintro e w26 ⟨v462, rfl, ho0, hb⟩; refine ⟨_, rfl, ?_⟩; have n0_ := Aside0.mk (Kd.R_elder' (by (with_reducible repeat (first | apply Kd.R_alloc | apply Kd.R_drewN | apply Kd.R_drew)); exact HO446.out) (Kd.R_base ho0) hb); have n1_ := Aside0.mk (Kd.R_elder' (by (with_reducible repeat (first | apply Kd.R_alloc | apply Kd.R_drewN | apply Kd.R_drew)); exact HO454.out) (Kd.R_base ho0) hb); have n2_ := Aside0.mk (Kd.R_lower (Kd.R_new' (Kd.R_new' ho0 (Kd.R_lt (by (with_reducible repeat (first | apply Kd.R_alloc | apply Kd.R_drewN | apply Kd.R_drew)); exact HO446.out))) (Kd.R_lt (by (with_reducible repeat (first | apply Kd.R_alloc | apply Kd.R_drewN | apply Kd.R_drew)); exact HO454.out))) (below_size (by repeat (first | (with_reducible first | exact HB.out | apply below_alloc | apply pw_below_drewN | apply below_drew1) | exact HB.out)))); have n3_ := Aside0.mk (below_step (by repeat (first | (with_reducible first | exact HB.out | apply below_alloc | apply pw_below_drewN | apply below_drew1) | exact HB.out)) hb); clear HO446; clear HO454; clear HB; have HO446 := n0_; have HO454 := n1_; have HO463 := n2_; have HB := n3_; clear n0_ n1_ n2_ n3_; (try clear hb); (try clear hb2); (try clear hk); (try clear hi); (try clear ho0); obtain ⟨Ao27, co27, eo27⟩ := Kd.R_slice HO463.out; subst eo27) | ((with_reducible refine gate_callee (f := 19) rfl ?_); refine goesL_ (some 87) rfl rfl Try.func19 (by kernel_rfl) rfl #[.slice Ao27 t459.length co27, .int .i64 t460, .int .i64 t461] rfl (by (try simp only [List.map_toArray, List.map_cons, List.map_nil]); first | done | rfl | (simp only [List.length_drop, List.length_take]; rfl)) ?_; (with_reducible refine (impl_CountLoadings.calls k _ _ t459 t460 t461 t464 t465 _ ?side1 ?side2 A11.out).mono ?_); (case side1 => repeat (first | exact (Kd.R_reads' HO463.out).2.2 | (with_reducible refine Kd.C_alloc ?_ _) | (with_reducible refine Kd.C_drewN ?_ _) | (with_reducible refine Kd.C_drew ?_))); (case side2 => exact (Kd.R_reads' HO463.out).2.1); rintro e w28 ⟨rfl, hb⟩; refine ⟨_, rfl, ?_⟩; have n0_ := Aside0.mk (Kd.R_below (by (with_reducible repeat (first | apply Kd.R_alloc | apply Kd.R_drewN | apply Kd.R_drew)); exact HO446.out) hb); have n1_ := Aside0.mk (Kd.R_below (by (with_reducible repeat (first | apply Kd.R_alloc | apply Kd.R_drewN | apply Kd.R_drew)); exact HO454.out) hb); have n2_ := Aside0.mk (Kd.R_below (by (with_reducible repeat (first | apply Kd.R_alloc | apply Kd.R_drewN | apply Kd.R_drew)); exact HO463.out) hb); have n3_ := Aside0.mk (below_step (by repeat (first | (with_reducible first | exact HB.out | apply below_alloc | apply pw_below_drewN | apply below_drew1) | exact HB.out)) hb); clear HO446; clear HO454; clear HO463; clear HB; have HO446 := n0_; have HO454 := n1_; have HO463 := n2_; have HB := n3_; clear n0_ n1_ n2_ n3_; (try clear hb); (try clear hb2); (try clear hk); (try clear hi)) | ((with_reducible refine gate_callee (f := 18) rfl ?_); refine goesL_ (some 94) rfl rfl Try.func18 (by kernel_rfl) rfl #[.slice Ao27 t459.length co27, .int .i64 t460, .int .i64 t461] rfl (by (try simp only [List.map_toArray, List.map_cons, List.map_nil]); first | done | rfl | (simp only [List.length_drop, List.length_take]; rfl)) ?_; (with_reducible refine (spec_CountLoadings.calls k _ _ t459 t460 t461 t466 t467 _ ?side1 ?side2 A12.out).mono ?_); (case side1 => repeat (first | exact (Kd.R_reads' HO463.out).2.2 | (with_reducible refine Kd.C_alloc ?_ _) | (with_reducible refine Kd.C_drewN ?_ _) | (with_reducible refine Kd.C_drew ?_))); (case side2 => exact (Kd.R_reads' HO463.out).2.1); rintro e w29 ⟨rfl, hb⟩; refine ⟨_, rfl, ?_⟩; have n0_ := Aside0.mk (Kd.R_below (by (with_reducible repeat (first | apply Kd.R_alloc | apply Kd.R_drewN | apply Kd.R_drew)); exact HO446.out) hb); have n1_ := Aside0.mk (Kd.R_below (by (with_reducible repeat (first | apply Kd.R_alloc | apply Kd.R_drewN | apply Kd.R_drew)); exact HO454.out) hb); have n2_ := Aside0.mk (Kd.R_below (by (with_reducible repeat (first | apply Kd.R_alloc | apply Kd.R_drewN | apply Kd.R_drew)); exact HO463.out) hb); have n3_ := Aside0.mk (below_step (by repeat (first | (with_reducible first | exact HB.out | apply below_alloc | apply pw_below_drewN | apply below_drew1) | exact HB.out)) hb); clear HO446; clear HO454; clear HO463; clear HB; have HO446 := n0_; have HO454 := n1_; have HO463 := n2_; have HB := n3_; clear n0_ n1_ n2_ n3_; (try clear hb); (try clear hb2); (try clear hk); (try clear hi)) | ((with_reducible refine gate_callee (f := 45) rfl ?_); refine goesL_ (some 99) rfl rfl Try.func45 (by kernel_rfl) rfl #[.slice A0 l0.length c0] rfl (by (try simp only [List.map_toArray, List.map_cons, List.map_nil]); first | done | rfl | (simp only [List.length_drop, List.length_take]; rfl)) ?_; (with_reducible refine (spec_DrawPeakOf.calls k _ _ l0 t468 t471 t472 _ ?side1 ?side2 A13.out).mono ?_); (case side1 => repeat (first | exact HR0.out | exact (Kd.C_below HR0.out HB.out) | (with_reducible refine Kd.C_alloc ?_ _) | (with_reducible refine Kd.C_drewN ?_ _) | (with_reducible refine Kd.C_drew ?_))); (case side2 => exact HC0.out); rintro e w30 ⟨v469, v473, rfl, ho0, ho1, hb⟩; refine ⟨_, rfl, ?_⟩; have n0_ := Aside0.mk (Kd.R_elder' (by (with_reducible repeat (first | apply Kd.R_alloc | apply Kd.R_drewN | apply Kd.R_drew)); exact HO446.out) (Kd.R_base ho0) hb); have n1_ := Aside0.mk (Kd.R_elder' (by (with_reducible repeat (first | apply Kd.R_alloc | apply Kd.R_drewN | apply Kd.R_drew)); exact HO454.out) (Kd.R_base ho0) hb); have n2_ := Aside0.mk (Kd.R_elder' (by (with_reducible repeat (first | apply Kd.R_alloc | apply Kd.R_drewN | apply Kd.R_drew)); exact HO463.out) (Kd.R_base ho0) hb); have n3_ := Aside0.mk (Kd.R_lower (Kd.R_new' (Kd.R_new' (Kd.R_new' (Kd.R_mono (ok' := fun k_ => True) ho0 (fun _ hk_ => trivial)) (Kd.R_lt (by (with_reducible repeat (first | apply Kd.R_alloc | apply Kd.R_drewN | apply Kd.R_drew)); exact HO446.out))) (Kd.R_lt (by (with_reducible repeat (first | apply Kd.R_alloc | apply Kd.R_drewN | apply Kd.R_drew)); exact HO454.out))) (Kd.R_lt (by (with_reducible repeat (first | apply Kd.R_alloc | apply Kd.R_drewN | apply Kd.R_drew)); exact HO463.out))) (below_size (by repeat (first | (with_reducible first | exact HB.out | apply below_alloc | apply pw_below_drewN | apply below_drew1) | exact HB.out)))); have n4_ := Aside0.mk (Kd.V_lower (Kd.V_mono (ok' := fun k_ => some k_ ≠ (v469 : Value).ownBlock ∧ some k_ ≠ (.slice Ao19 t442.length co19 : Value).ownBlock ∧ some k_ ≠ (.slice Ao23 t451.length co23 : Value).ownBlock ∧ some k_ ≠ (.slice Ao27 t459.length co27 : Value).ownBlock) ho1 (fun k_ hk_ => ⟨hk_.2, (Kd.fresh' (Kd.R_lt (by (with_reducible repeat (first | apply Kd.R_alloc | apply Kd.R_drewN | apply Kd.R_drew)); exact HO446.out)) k_ hk_.1), (Kd.fresh' (Kd.R_lt (by (with_reducible repeat (first | apply Kd.R_alloc | apply Kd.R_drewN | apply Kd.R_drew)); exact HO454.out)) k_ hk_.1), (Kd.fresh' (Kd.R_lt (by (with_reducible repeat (first | apply Kd.R_alloc | apply Kd.R_drewN | apply Kd.R_drew)); exact HO463.out)) k_ hk_.1)⟩)) (below_size (by repeat (first | (with_reducible first | exact HB.out | apply below_alloc | apply pw_below_drewN | apply below_drew1) | exact HB.out)))); have n5_ := Aside0.mk (below_step (by repeat (first | (with_reducible first | exact HB.out | apply below_alloc | apply pw_below_drewN | apply below_drew1) | exact HB.out)) hb); clear HO446; clear HO454; clear HO463; clear HB; have HO446 := n0_; have HO454 := n1_; have HO463 := n2_; have HO470 := n3_; have HO474 := n4_; have HB := n5_; clear n0_ n1_ n2_ n3_ n4_ n5_; (try clear hb); (try clear hb2); (try clear hk); (try clear hi); (try clear ho0); (try clear ho1); obtain ⟨Ao31, co31, eo31⟩ := Kd.R_slice HO470.out; subst eo31; obtain ⟨Ao32, co32, eo32⟩ := Kd.V_slice HO474.out; subst eo32) | ((with_reducible refine gate_callee (f := 31) rfl ?_); refine goesL_ (some 107) rfl rfl Try.func31 (by kernel_rfl) rfl #[.slice Ao31 t468.length co31, .int .i64 t471, .slice Ao32 t472.length co32] rfl (by (try simp only [List.map_toArray, List.map_cons, List.map_nil]); first | done | rfl | (simp only [List.length_drop, List.length_take]; rfl)) ?_; (with_reducible refine (impl_PeakOf.calls k _ _ t468 t471 _ _ t472 t475 t476 _ ?side1 ?side2 ?side3 ?side4 A14.out).mono ?_); (case side1 => repeat (first | exact (Kd.R_reads' HO470.out).2.2 | (with_reducible refine Kd.C_alloc ?_ _) | (with_reducible refine Kd.C_drewN ?_ _) | (with_reducible refine Kd.C_drew ?_))); (case side2 => exact (Kd.R_reads' HO470.out).2.1); (case side3 => repeat (first | exact (Kd.V_reads' HO474.out).2.2 | (with_reducible refine Kd.C_alloc ?_ _) | (with_reducible refine Kd.C_drewN ?_ _) | (with_reducible refine Kd.C_drew ?_))); (case side4 => exact (Kd.V_reads' HO474.out).2.1); rintro e w33 ⟨rfl, hb⟩; refine ⟨_, rfl, ?_⟩; have n0_ := Aside0.mk (Kd.R_below (by (with_reducible repeat (first | apply Kd.R_alloc | apply Kd.R_drewN | apply Kd.R_drew)); exact HO446.out) hb); have n1_ := Aside0.mk (Kd.R_below (by (with_reducible repeat (first | apply Kd.R_alloc | apply Kd.R_drewN | apply Kd.R_drew)); exact HO454.out) hb); have n2_ := Aside0.mk (Kd.R_below (by (with_reducible repeat (first | apply Kd.R_alloc | apply Kd.R_drewN | apply Kd.R_drew)); exact HO463.out) hb); have n3_ := Aside0.mk (Kd.R_below (by (with_reducible repeat (first | apply Kd.R_alloc | apply Kd.R_drewN | apply Kd.R_drew)); exact HO470.out) hb); have n4_ := Aside0.mk (Kd.V_below (by (with_reducible repeat (first | apply Kd.V_alloc | apply Kd.V_drewN | apply Kd.V_drew)); exact HO474.out) hb); have n5_ := Aside0.mk (below_step (by repeat (first | (with_reducible first | exact HB.out | apply below_alloc | apply pw_below_drewN | apply below_drew1) | exact HB.out)) hb); clear HO446; clear HO454; clear HO463; clear HO470; clear HO474; clear HB; have HO446 := n0_; have HO454 := n1_; have HO463 := n2_; have HO470 := n3_; have HO474 := n4_; have HB := n5_; clear n0_ n1_ n2_ n3_ n4_ n5_; (try clear hb); (try clear hb2); (try clear hk); (try clear hi)) | ((with_reducible refine gate_callee (f := 24) rfl ?_); refine goesL_ (some 114) rfl rfl Try.func24 (by kernel_rfl) rfl #[.slice Ao31 t468.length co31, .int .i64 t471, .slice Ao32 t472.length co32] rfl (by (try simp only [List.map_toArray, List.map_cons, List.map_nil]); first | done | rfl | (simp only [List.length_drop, List.length_take]; rfl)) ?_; (with_reducible refine (impl_IsLoading.calls k _ _ t468 t471 _ _ t472 t477 t478 _ ?side1 ?side2 ?side3 ?side4 A15.out).mono ?_); (case side1 => repeat (first | exact (Kd.R_reads' HO470.out).2.2 | (with_reducible refine Kd.C_alloc ?_ _) | (with_reducible refine Kd.C_drewN ?_ _) | (with_reducible refine Kd.C_drew ?_))); (case side2 => exact (Kd.R_reads' HO470.out).2.1); (case side3 => repeat (first | exact (Kd.V_reads' HO474.out).2.2 | (with_reducible refine Kd.C_alloc ?_ _) | (with_reducible refine Kd.C_drewN ?_ _) | (with_reducible refine Kd.C_drew ?_))); (case side4 => exact (Kd.V_reads' HO474.out).2.1); rintro e w34 ⟨rfl, hb⟩; refine ⟨_, rfl, ?_⟩; have n0_ := Aside0.mk (Kd.R_below (by (with_reducible repeat (first | apply Kd.R_alloc | apply Kd.R_drewN | apply Kd.R_drew)); exact HO446.out) hb); have n1_ := Aside0.mk (Kd.R_below (by (with_reducible repeat (first | apply Kd.R_alloc | apply Kd.R_drewN | apply Kd.R_drew)); exact HO454.out) hb); have n2_ := Aside0.mk (Kd.R_below (by (with_reducible repeat (first | apply Kd.R_alloc | apply Kd.R_drewN | apply Kd.R_drew)); exact HO463.out) hb); have n3_ := Aside0.mk (Kd.R_below (by (with_reducible repeat (first | apply Kd.R_alloc | apply Kd.R_drewN | apply Kd.R_drew)); exact HO470.out) hb); have n4_ := Aside0.mk (Kd.V_below (by (with_reducible repeat (first | apply Kd.V_alloc | apply Kd.V_drewN | apply Kd.V_drew)); exact HO474.out) hb); have n5_ := Aside0.mk (below_step (by repeat (first | (with_reducible first | exact HB.out | apply below_alloc | apply pw_below_drewN | apply below_drew1) | exact HB.out)) hb); clear HO446; clear HO454; clear HO463; clear HO470; clear HO474; clear HB; have HO446 := n0_; have HO454 := n1_; have HO463 := n2_; have HO470 := n3_; have HO474 := n4_; have HB := n5_; clear n0_ n1_ n2_ n3_ n4_ n5_; (try clear hb); (try clear hb2); (try clear hk); (try clear hi)) | ((with_reducible refine gate_callee (f := 30) rfl ?_); refine goesL_ (some 121) rfl rfl Try.func30 (by kernel_rfl) rfl #[.slice Ao31 t468.length co31, .int .i64 t471, .slice Ao32 t472.length co32] rfl (by (try simp only [List.map_toArray, List.map_cons, List.map_nil]); first | done | rfl | (simp only [List.length_drop, List.length_take]; rfl)) ?_; (with_reducible refine (spec_PeakOf.calls k _ _ t468 t471 _ _ t472 t479 t480 _ ?side1 ?side2 ?side3 ?side4 A16.out).mono ?_); (case side1 => repeat (first | exact (Kd.R_reads' HO470.out).2.2 | (with_reducible refine Kd.C_alloc ?_ _) | (with_reducible refine Kd.C_drewN ?_ _) | (with_reducible refine Kd.C_drew ?_))); (case side2 => exact (Kd.R_reads' HO470.out).2.1); (case side3 => repeat (first | exact (Kd.V_reads' HO474.out).2.2 | (with_reducible refine Kd.C_alloc ?_ _) | (with_reducible refine Kd.C_drewN ?_ _) | (with_reducible refine Kd.C_drew ?_))); (case side4 => exact (Kd.V_reads' HO474.out).2.1); rintro e w35 ⟨rfl, hb⟩; refine ⟨_, rfl, ?_⟩; have n0_ := Aside0.mk (Kd.R_below (by (with_reducible repeat (first | apply Kd.R_alloc | apply Kd.R_drewN | apply Kd.R_drew)); exact HO446.out) hb); have n1_ := Aside0.mk (Kd.R_below (by (with_reducible repeat (first | apply Kd.R_alloc | apply Kd.R_drewN | apply Kd.R_drew)); exact HO454.out) hb); have n2_ := Aside0.mk (Kd.R_below (by (with_reducible repeat (first | apply Kd.R_alloc | apply Kd.R_drewN | apply Kd.R_drew)); exact HO463.out) hb); have n3_ := Aside0.mk (Kd.R_below (by (with_reducible repeat (first | apply Kd.R_alloc | apply Kd.R_drewN | apply Kd.R_drew)); exact HO470.out) hb); have n4_ := Aside0.mk (Kd.V_below (by (with_reducible repeat (first | apply Kd.V_alloc | apply Kd.V_drewN | apply Kd.V_drew)); exact HO474.out) hb); have n5_ := Aside0.mk (below_step (by repeat (first | (with_reducible first | exact HB.out | apply below_alloc | apply pw_below_drewN | apply below_drew1) | exact HB.out)) hb); clear HO446; clear HO454; clear HO463; clear HO470; clear HO474; clear HB; have HO446 := n0_; have HO454 := n1_; have HO463 := n2_; have HO470 := n3_; have HO474 := n4_; have HB := n5_; clear n0_ n1_ n2_ n3_ n4_ n5_; (try clear hb); (try clear hb2); (try clear hk); (try clear hi)))
    (try simp only [Act.put, List.setIfInBounds_toArray, List.set_cons_zero, List.set_cons_succ])
    go_cut [161] (fun v161 wc => ∃ (kq : Nat) (x161_16 : Bool), v161 = .bool x161_16 ∧ Aside0 (laws_FnPeaks.j0 kq t442 t443 t444 t447 t448 t451 t452 t455 t456 t471 t475 t476 t477 t478 x161_16 = some r) ∧ Aside0 (kq ≤ k) ∧ Aside0 (Kd.R k55 55 wc w.heap.size (fun k_ => some k_ ≠ ((.slice Ao23 t451.length co23) : Value).ownBlock) (.slice Ao19 t442.length co19) t442) ∧ Aside0 (Kd.R k55 55 wc w.heap.size (fun k_ => some k_ ≠ ((.slice Ao19 t442.length co19) : Value).ownBlock) (.slice Ao23 t451.length co23) t451) ∧ Aside0 (Below w.heap.size w wc))
    case first =>
      have H := HC17.out
      clear HC17
      by_cases c36 : t448 = t450
      · as_aux_lemma =>
        rw [if_pos c36] at H
        have c36b0 : (t448 == t450) = true := beq_iff_eq.mpr c36
        have c36b1 : (t448 != t450) = false := bne_eq_false_iff_eq.mpr c36
        clear c36
        (first | rw [c36b0] | (simp only [i64_w, i32_w]; rw [c36b0]) | skip)
        by_cases c37 : t447 = t449
        · as_aux_lemma =>
          rw [if_pos c37] at H
          have c37b0 : (t447 == t449) = true := beq_iff_eq.mpr c37
          have c37b1 : (t447 != t449) = false := bne_eq_false_iff_eq.mpr c37
          clear c37
          by_cases c38 : t456 = t458
          · as_aux_lemma =>
            rw [if_pos c38] at H
            have c38b0 : (t456 == t458) = true := beq_iff_eq.mpr c38
            have c38b1 : (t456 != t458) = false := bne_eq_false_iff_eq.mpr c38
            clear c38
            by_cases c39 : t455 = t457
            · as_aux_lemma =>
              rw [if_pos c39] at H
              have c39b0 : (t455 == t457) = true := beq_iff_eq.mpr c39
              have c39b1 : (t455 != t457) = false := bne_eq_false_iff_eq.mpr c39
              clear c39
              by_cases c40 : t465 = t467
              · as_aux_lemma =>
                rw [if_pos c40] at H
                have c40b0 : (t465 == t467) = true := beq_iff_eq.mpr c40
                have c40b1 : (t465 != t467) = false := bne_eq_false_iff_eq.mpr c40
                clear c40
                by_cases c41 : t464 = t466
                · rw [if_pos c41] at H
                  have c41b0 : (t464 == t466) = true := beq_iff_eq.mpr c41
                  have c41b1 : (t464 != t466) = false := bne_eq_false_iff_eq.mpr c41
                  clear c41
                  by_cases c42 : t476 = t480
                  · rw [if_pos c42] at H
                    have c42b0 : (t476 == t480) = true := beq_iff_eq.mpr c42
                    have c42b1 : (t476 != t480) = false := bne_eq_false_iff_eq.mpr c42
                    clear c42
                    have H' := Aside0.mk H
                    clear H
                    go_wp2
                    go_meet
                    case rel => exact ⟨_, ((t475 != t479)), (by first | rfl | (simp; done) | (simp [*]; done)), H', ⟨by first | omega | exact Nat.le_refl _⟩, ⟨by (with_reducible repeat (first | apply Kd.R_alloc | apply Kd.R_drewN | apply Kd.R_drew)); exact Kd.R_mono HO446.out (fun _ hk => hk.1.1.2)⟩, ⟨by (with_reducible repeat (first | apply Kd.R_alloc | apply Kd.R_drewN | apply Kd.R_drew)); exact Kd.R_mono HO454.out (fun _ hk => hk.1.1.2)⟩, ⟨by repeat (first | (with_reducible first | exact HB.out | apply below_alloc | apply pw_below_drewN | apply below_drew1) | exact HB.out)⟩⟩
                  · rw [if_neg c42] at H
                    have c42b0 : (t476 == t480) = false := beq_eq_false_iff_ne.mpr c42
                    have c42b1 : (t476 != t480) = true := bne_iff_ne.mpr c42
                    have H' := Aside0.mk H
                    clear H
                    go_wp2
                    go_meet
                    case rel => exact ⟨_, (true), (by first | rfl | (simp; done) | (simp [*]; done)), H', ⟨by first | omega | exact Nat.le_refl _⟩, ⟨by (with_reducible repeat (first | apply Kd.R_alloc | apply Kd.R_drewN | apply Kd.R_drew)); exact Kd.R_mono HO446.out (fun _ hk => hk.1.1.2)⟩, ⟨by (with_reducible repeat (first | apply Kd.R_alloc | apply Kd.R_drewN | apply Kd.R_drew)); exact Kd.R_mono HO454.out (fun _ hk => hk.1.1.2)⟩, ⟨by repeat (first | (with_reducible first | exact HB.out | apply below_alloc | apply pw_below_drewN | apply below_drew1) | exact HB.out)⟩⟩
                · rw [if_neg c41] at H
                  have c41b0 : (t464 == t466) = false := beq_eq_false_iff_ne.mpr c41
                  have c41b1 : (t464 != t466) = true := bne_iff_ne.mpr c41
                  have H' := Aside0.mk H
                  clear H
                  go_wp2
                  go_meet
                  case rel => exact ⟨_, (true), (by first | rfl | (simp; done) | (simp [*]; done)), H', ⟨by first | omega | exact Nat.le_refl _⟩, ⟨by (with_reducible repeat (first | apply Kd.R_alloc | apply Kd.R_drewN | apply Kd.R_drew)); exact Kd.R_mono HO446.out (fun _ hk => hk.1.1.2)⟩, ⟨by (with_reducible repeat (first | apply Kd.R_alloc | apply Kd.R_drewN | apply Kd.R_drew)); exact Kd.R_mono HO454.out (fun _ hk => hk.1.1.2)⟩, ⟨by repeat (first | (with_reducible first | exact HB.out | apply below_alloc | apply pw_below_drewN | apply below_drew1) | exact HB.out)⟩⟩
              · rw [if_neg c40] at H
                have c40b0 : (t465 == t467) = false := beq_eq_false_iff_ne.mpr c40
                have c40b1 : (t465 != t467) = true := bne_iff_ne.mpr c40
                have H' := Aside0.mk H
                clear H
                go_wp2
                go_meet
                case rel => exact ⟨_, (true), (by first | rfl | (simp; done) | (simp [*]; done)), H', ⟨by first | omega | exact Nat.le_refl _⟩, ⟨by (with_reducible repeat (first | apply Kd.R_alloc | apply Kd.R_drewN | apply Kd.R_drew)); exact Kd.R_mono HO446.out (fun _ hk => hk.1.1.2)⟩, ⟨by (with_reducible repeat (first | apply Kd.R_alloc | apply Kd.R_drewN | apply Kd.R_drew)); exact Kd.R_mono HO454.out (fun _ hk => hk.1.1.2)⟩, ⟨by repeat (first | (with_reducible first | exact HB.out | apply below_alloc | apply pw_below_drewN | apply below_drew1) | exact HB.out)⟩⟩
            · rw [if_neg c39] at H
              have c39b0 : (t455 == t457) = false := beq_eq_false_iff_ne.mpr c39
              have c39b1 : (t455 != t457) = true := bne_iff_ne.mpr c39
              have H' := Aside0.mk H
              clear H
              go_wp2
              go_meet
              case rel => exact ⟨_, (true), (by first | rfl | (simp; done) | (simp [*]; done)), H', ⟨by first | omega | exact Nat.le_refl _⟩, ⟨by (with_reducible repeat (first | apply Kd.R_alloc | apply Kd.R_drewN | apply Kd.R_drew)); exact Kd.R_mono HO446.out (fun _ hk => hk.1.1.2)⟩, ⟨by (with_reducible repeat (first | apply Kd.R_alloc | apply Kd.R_drewN | apply Kd.R_drew)); exact Kd.R_mono HO454.out (fun _ hk => hk.1.1.2)⟩, ⟨by repeat (first | (with_reducible first | exact HB.out | apply below_alloc | apply pw_below_drewN | apply below_drew1) | exact HB.out)⟩⟩
          · rw [if_neg c38] at H
            have c38b0 : (t456 == t458) = false := beq_eq_false_iff_ne.mpr c38
            have c38b1 : (t456 != t458) = true := bne_iff_ne.mpr c38
            have H' := Aside0.mk H
            clear H
            go_wp2
            go_meet
            case rel => exact ⟨_, (true), (by first | rfl | (simp; done) | (simp [*]; done)), H', ⟨by first | omega | exact Nat.le_refl _⟩, ⟨by (with_reducible repeat (first | apply Kd.R_alloc | apply Kd.R_drewN | apply Kd.R_drew)); exact Kd.R_mono HO446.out (fun _ hk => hk.1.1.2)⟩, ⟨by (with_reducible repeat (first | apply Kd.R_alloc | apply Kd.R_drewN | apply Kd.R_drew)); exact Kd.R_mono HO454.out (fun _ hk => hk.1.1.2)⟩, ⟨by repeat (first | (with_reducible first | exact HB.out | apply below_alloc | apply pw_below_drewN | apply below_drew1) | exact HB.out)⟩⟩
        · rw [if_neg c37] at H
          have c37b0 : (t447 == t449) = false := beq_eq_false_iff_ne.mpr c37
          have c37b1 : (t447 != t449) = true := bne_iff_ne.mpr c37
          have H' := Aside0.mk H
          clear H
          go_wp2
          go_meet
          case rel => exact ⟨_, (true), (by first | rfl | (simp; done) | (simp [*]; done)), H', ⟨by first | omega | exact Nat.le_refl _⟩, ⟨by (with_reducible repeat (first | apply Kd.R_alloc | apply Kd.R_drewN | apply Kd.R_drew)); exact Kd.R_mono HO446.out (fun _ hk => hk.1.1.2)⟩, ⟨by (with_reducible repeat (first | apply Kd.R_alloc | apply Kd.R_drewN | apply Kd.R_drew)); exact Kd.R_mono HO454.out (fun _ hk => hk.1.1.2)⟩, ⟨by repeat (first | (with_reducible first | exact HB.out | apply below_alloc | apply pw_below_drewN | apply below_drew1) | exact HB.out)⟩⟩
      · rw [if_neg c36] at H
        have c36b0 : (t448 == t450) = false := beq_eq_false_iff_ne.mpr c36
        have c36b1 : (t448 != t450) = true := bne_iff_ne.mpr c36
        (first | rw [c36b0] | (simp only [i64_w, i32_w]; rw [c36b0]) | skip)
        have H' := Aside0.mk H
        clear H
        go_wp2
        go_meet
        case rel => exact ⟨_, (true), (by first | rfl | (simp; done) | (simp [*]; done)), H', ⟨by first | omega | exact Nat.le_refl _⟩, ⟨by (with_reducible repeat (first | apply Kd.R_alloc | apply Kd.R_drewN | apply Kd.R_drew)); exact Kd.R_mono HO446.out (fun _ hk => hk.1.1.2)⟩, ⟨by (with_reducible repeat (first | apply Kd.R_alloc | apply Kd.R_drewN | apply Kd.R_drew)); exact Kd.R_mono HO454.out (fun _ hk => hk.1.1.2)⟩, ⟨by repeat (first | (with_reducible first | exact HB.out | apply below_alloc | apply pw_below_drewN | apply below_drew1) | exact HB.out)⟩⟩
    case rest =>
      clear HC17
      try clear c1
      try clear c2
      try clear p2
      try clear c3
      try clear c4
      try clear c12
      try clear c18
      try clear c19
      try clear c24
      try clear c26
      try clear c27
      try clear c28
      try clear c29
      try clear c30
      try clear c31
      try clear c36
      try clear c36b0
      try clear c36b1
      try clear c37
      try clear c37b0
      try clear c37b1
      try clear c38
      try clear c38b0
      try clear c38b1
      try clear c39
      try clear c39b0
      try clear c39b1
      try clear c40
      try clear c40b0
      try clear c40b1
      try clear c41
      try clear c41b0
      try clear c41b1
      try clear c42
      try clear c42b0
      try clear c42b1
      obtain ⟨kq, x161_16, rfl, HA, HJ16, HO_3, HO_10, HB⟩ := hcut
      cases kq with
      | zero => exact absurd HA.out (by simp [laws_FnPeaks.j0])
      | succ kj16 =>
        have H := HA.out
        clear HA
        simp only [laws_FnPeaks.j0] at H
        by_cases c43 : x161_16 = true
        · subst c43
          have H1 : (some false) = some r := by rw [if_pos rfl] at H; exact H
          clear H
          have H := H1
          clear H1
          obtain rfl := Option.some.inj H
          go_wp2
          go_ret
          exact ⟨by first | rfl | (simp [errW_none, errW_some] <;> rfl) | (simp [*, errW_none, errW_some] <;> rfl), by repeat (first | (with_reducible first | exact HB.out | apply below_alloc | apply pw_below_drewN | apply below_drew1) | exact HB.out)⟩
        · as_aux_lemma =>
          replace c43 := Bool.eq_false_iff.mpr c43
          subst c43
          have H1 : (if t476 = 0 then (if t475 > t471 then (laws_FnPeaks.j1 kj16 t442 t443 t444 t447 t448 t451 t452 t455 t456 true) else (if t478 = 0 then (laws_FnPeaks.j1 kj16 t442 t443 t444 t447 t448 t451 t452 t455 t456 (!t477)) else (laws_FnPeaks.j1 kj16 t442 t443 t444 t447 t448 t451 t452 t455 t456 true))) else (laws_FnPeaks.j1 kj16 t442 t443 t444 t447 t448 t451 t452 t455 t456 false)) = some r := by rw [if_neg (show ¬ (false = true) by decide)] at H; exact H
          clear H
          have H := H1
          clear H1
          have HC44 := Aside0.mk H
          clear H
          go_upto_region 18 with (fail)
          go_cut [176] (fun v176 wc => ∃ (kq : Nat) (x176_43 : Bool), v176 = .bool x176_43 ∧ Aside0 (laws_FnPeaks.j1 kq t442 t443 t444 t447 t448 t451 t452 t455 t456 x176_43 = some r) ∧ Aside0 (kq ≤ kj16) ∧ Aside0 (Kd.R k55 55 wc w.heap.size (fun k_ => some k_ ≠ ((.slice Ao23 t451.length co23) : Value).ownBlock) (.slice Ao19 t442.length co19) t442) ∧ Aside0 (Kd.R k55 55 wc w.heap.size (fun k_ => some k_ ≠ ((.slice Ao19 t442.length co19) : Value).ownBlock) (.slice Ao23 t451.length co23) t451) ∧ Aside0 (Below w.heap.size w wc))
          case first =>
            have H := HC44.out
            clear HC44
            by_cases c45 : t476 = 0
            · as_aux_lemma =>
              rw [if_pos c45] at H
              have c45b0 : (t476 == 0) = true := beq_iff_eq.mpr c45
              have c45b1 : (t476 != 0) = false := bne_eq_false_iff_eq.mpr c45
              clear c45
              (first | rw [c45b0] | (simp only [i64_w, i32_w]; rw [c45b0]) | skip)
              by_cases c46 : t475 > t471
              · rw [if_pos c46] at H
                have c46b0 : decide (t471 < t475) = true := decide_eq_true c46
                clear c46
                have H' := Aside0.mk H
                clear H
                go_wp2
                go_meet
                case rel => exact ⟨_, (true), (by first | rfl | (simp; done) | (simp [*]; done)), H', ⟨by have := HJ16.out; first | omega | exact Nat.le_refl _⟩, ⟨by (with_reducible repeat (first | apply Kd.R_alloc | apply Kd.R_drewN | apply Kd.R_drew)); exact HO_3.out⟩, ⟨by (with_reducible repeat (first | apply Kd.R_alloc | apply Kd.R_drewN | apply Kd.R_drew)); exact HO_10.out⟩, ⟨by repeat (first | (with_reducible first | exact HB.out | apply below_alloc | apply pw_below_drewN | apply below_drew1) | exact HB.out)⟩⟩
              · rw [if_neg c46] at H
                have c46b0 : decide (t471 < t475) = false := decide_eq_false c46
                clear c46
                by_cases c47 : t478 = 0
                · rw [if_pos c47] at H
                  have c47b0 : (t478 == 0) = true := beq_iff_eq.mpr c47
                  have c47b1 : (t478 != 0) = false := bne_eq_false_iff_eq.mpr c47
                  clear c47
                  have H' := Aside0.mk H
                  clear H
                  go_wp2
                  go_meet
                  case rel => exact ⟨_, (!t477), (by first | rfl | (simp; done) | (simp [*]; done)), H', ⟨by have := HJ16.out; first | omega | exact Nat.le_refl _⟩, ⟨by (with_reducible repeat (first | apply Kd.R_alloc | apply Kd.R_drewN | apply Kd.R_drew)); exact HO_3.out⟩, ⟨by (with_reducible repeat (first | apply Kd.R_alloc | apply Kd.R_drewN | apply Kd.R_drew)); exact HO_10.out⟩, ⟨by repeat (first | (with_reducible first | exact HB.out | apply below_alloc | apply pw_below_drewN | apply below_drew1) | exact HB.out)⟩⟩
                · rw [if_neg c47] at H
                  have c47b0 : (t478 == 0) = false := beq_eq_false_iff_ne.mpr c47
                  have c47b1 : (t478 != 0) = true := bne_iff_ne.mpr c47
                  have H' := Aside0.mk H
                  clear H
                  go_wp2
                  go_meet
                  case rel => exact ⟨_, (true), (by first | rfl | (simp; done) | (simp [*]; done)), H', ⟨by have := HJ16.out; first | omega | exact Nat.le_refl _⟩, ⟨by (with_reducible repeat (first | apply Kd.R_alloc | apply Kd.R_drewN | apply Kd.R_drew)); exact HO_3.out⟩, ⟨by (with_reducible repeat (first | apply Kd.R_alloc | apply Kd.R_drewN | apply Kd.R_drew)); exact HO_10.out⟩, ⟨by repeat (first | (with_reducible first | exact HB.out | apply below_alloc | apply pw_below_drewN | apply below_drew1) | exact HB.out)⟩⟩
            · rw [if_neg c45] at H
              have c45b0 : (t476 == 0) = false := beq_eq_false_iff_ne.mpr c45
              have c45b1 : (t476 != 0) = true := bne_iff_ne.mpr c45
              (first | rw [c45b0] | (simp only [i64_w, i32_w]; rw [c45b0]) | skip)
              have H' := Aside0.mk H
              clear H
              go_wp2
              go_meet
              case rel => exact ⟨_, (false), (by first | rfl | (simp; done) | (simp [*]; done)), H', ⟨by have := HJ16.out; first | omega | exact Nat.le_refl _⟩, ⟨by (with_reducible repeat (first | apply Kd.R_alloc | apply Kd.R_drewN | apply Kd.R_drew)); exact HO_3.out⟩, ⟨by (with_reducible repeat (first | apply Kd.R_alloc | apply Kd.R_drewN | apply Kd.R_drew)); exact HO_10.out⟩, ⟨by repeat (first | (with_reducible first | exact HB.out | apply below_alloc | apply pw_below_drewN | apply below_drew1) | exact HB.out)⟩⟩
          case rest =>
            clear HC44
            try clear c1
            try clear c2
            try clear p2
            try clear c3
            try clear c4
            try clear c12
            try clear c18
            try clear c19
            try clear c24
            try clear c26
            try clear c27
            try clear c28
            try clear c29
            try clear c30
            try clear c31
            try clear c36
            try clear c36b0
            try clear c36b1
            try clear c37
            try clear c37b0
            try clear c37b1
            try clear c38
            try clear c38b0
            try clear c38b1
            try clear c39
            try clear c39b0
            try clear c39b1
            try clear c40
            try clear c40b0
            try clear c40b1
            try clear c41
            try clear c41b0
            try clear c41b1
            try clear c42
            try clear c42b0
            try clear c42b1
            try clear c43
            try clear c44
            try clear c45
            try clear c45b0
            try clear c45b1
            try clear c46
            try clear c46b0
            try clear c47
            try clear c47b0
            try clear c47b1
            try clear p2
            obtain ⟨kq, x176_43, rfl, HA, HJ43, HO_3, HO_10, HB⟩ := hcut
            cases kq with
            | zero => exact absurd HA.out (by simp [laws_FnPeaks.j1])
            | succ kj43 =>
              have H := HA.out
              clear HA
              simp only [laws_FnPeaks.j1] at H
              by_cases c48 : x176_43 = true
              · subst c48
                have H1 : (some false) = some r := by rw [if_pos rfl] at H; exact H
                clear H
                have H := H1
                clear H1
                obtain rfl := Option.some.inj H
                go_wp2
                go_ret
                exact ⟨by first | rfl | (simp [errW_none, errW_some] <;> rfl) | (simp [*, errW_none, errW_some] <;> rfl), by repeat (first | (with_reducible first | exact HB.out | apply below_alloc | apply pw_below_drewN | apply below_drew1) | exact HB.out)⟩
              · as_aux_lemma =>
                replace c48 := Bool.eq_false_iff.mpr c48
                subst c48
                have H1 : (if t456 = 0 then ((impl_FewestVehicles.f kj43 t451 t455).bind fun bt481 => (if bt481.2 = 0 then (laws_FnPeaks.j2 kj43 t442 t443 t444 t447 t448 t451 t452 t455 (decide (bt481.1 > t452))) else (laws_FnPeaks.j2 kj43 t442 t443 t444 t447 t448 t451 t452 t455 true))) else (if t448 = 0 then (if (t442.length : Int) = 0 then (some (t447 == 0)) else ((impl_CountLoadings.f kj43 t442 t447 t444).bind fun bt489 => (if t447 ≤ t443 then (if bt489.2 = 0 then (some (decide (bt489.1 > 0))) else (some false)) else (some false)))) else (some true))) = some r := by rw [if_neg (show ¬ (false = true) by decide)] at H; exact H
                clear H
                have H := H1
                clear H1
                by_cases c49 : t456 = 0
                · as_aux_lemma =>
                  rw [if_pos c49] at H
                  have c49b0 : (t456 == 0) = true := beq_iff_eq.mpr c49
                  have c49b1 : (t456 != 0) = false := bne_eq_false_iff_eq.mpr c49
                  clear c49
                  replace H := Option.bind_eq_some_iff.mp H
                  obtain ⟨⟨t481, t482⟩, A500, H⟩ := H
                  replace H : (if t482 = 0 then (laws_FnPeaks.j2 kj43 t442 t443 t444 t447 t448 t451 t452 t455 (decide (t481 > t452))) else (laws_FnPeaks.j2 kj43 t442 t443 t444 t447 t448 t451 t452 t455 true)) = some r := H
                  have A50 := Aside0.mk A500
                  clear A500
                  have HC51 := Aside0.mk H
                  clear H
                  go_upto_region 22 with (first | ((with_reducible refine gate_callee (f := 21) rfl ?_); refine goesL_ (some 182) rfl rfl Try.func21 (by kernel_rfl) rfl #[.slice Ao23 t451.length co23, .int .i64 t455] rfl (by (try simp only [List.map_toArray, List.map_cons, List.map_nil]); first | done | rfl | (simp only [List.length_drop, List.length_take]; rfl)) ?_; (with_reducible refine (impl_FewestVehicles.calls kj43 _ _ t451 t455 t481 t482 _ ?side1 ?side2 A50.out).mono ?_); (case side1 => repeat (first | exact (Kd.R_reads' HO_10.out).2.2 | (with_reducible refine Kd.C_alloc ?_ _) | (with_reducible refine Kd.C_drewN ?_ _) | (with_reducible refine Kd.C_drew ?_))); (case side2 => exact (Kd.R_reads' HO_10.out).2.1); rintro e w52 ⟨rfl, hb⟩; refine ⟨_, rfl, ?_⟩; have n0_ := Aside0.mk (Kd.R_below (by (with_reducible repeat (first | apply Kd.R_alloc | apply Kd.R_drewN | apply Kd.R_drew)); exact HO_3.out) hb); have n1_ := Aside0.mk (Kd.R_below (by (with_reducible repeat (first | apply Kd.R_alloc | apply Kd.R_drewN | apply Kd.R_drew)); exact HO_10.out) hb); have n2_ := Aside0.mk (below_step (by repeat (first | (with_reducible first | exact HB.out | apply below_alloc | apply pw_below_drewN | apply below_drew1) | exact HB.out)) hb); clear HO_3; clear HO_10; clear HB; have HO_3 := n0_; have HO_10 := n1_; have HB := n2_; clear n0_ n1_ n2_; (try clear hb); (try clear hb2); (try clear hk); (try clear hi)))
                  (try simp only [Act.put, List.setIfInBounds_toArray, List.set_cons_zero, List.set_cons_succ])
                  go_cut [191] (fun v191 wc => ∃ (kq : Nat) (x191_50 : Bool), v191 = .bool x191_50 ∧ Aside0 (laws_FnPeaks.j2 kq t442 t443 t444 t447 t448 t451 t452 t455 x191_50 = some r) ∧ Aside0 (kq ≤ kj43) ∧ Aside0 (Kd.R k55 55 wc w.heap.size (fun k_ => some k_ ≠ ((.slice Ao23 t451.length co23) : Value).ownBlock) (.slice Ao19 t442.length co19) t442) ∧ Aside0 (Kd.R k55 55 wc w.heap.size (fun k_ => some k_ ≠ ((.slice Ao19 t442.length co19) : Value).ownBlock) (.slice Ao23 t451.length co23) t451) ∧ Aside0 (Below w.heap.size w wc))
                  case first =>
                    have H := HC51.out
                    clear HC51
                    by_cases c53 : t482 = 0
                    · rw [if_pos c53] at H
                      have c53b0 : (t482 == 0) = true := beq_iff_eq.mpr c53
                      have c53b1 : (t482 != 0) = false := bne_eq_false_iff_eq.mpr c53
                      clear c53
                      (first | rw [c53b0] | (simp only [i64_w, i32_w]; rw [c53b0]) | skip)
                      have H' := Aside0.mk H
                      clear H
                      go_wp2
                      go_meet
                      case rel => exact ⟨_, (decide (t481 > t452)), (by first | rfl | (simp; done) | (simp [*]; done)), H', ⟨by have := HJ16.out; have := HJ43.out; first | omega | exact Nat.le_refl _⟩, ⟨by (with_reducible repeat (first | apply Kd.R_alloc | apply Kd.R_drewN | apply Kd.R_drew)); exact HO_3.out⟩, ⟨by (with_reducible repeat (first | apply Kd.R_alloc | apply Kd.R_drewN | apply Kd.R_drew)); exact HO_10.out⟩, ⟨by repeat (first | (with_reducible first | exact HB.out | apply below_alloc | apply pw_below_drewN | apply below_drew1) | exact HB.out)⟩⟩
                    · rw [if_neg c53] at H
                      have c53b0 : (t482 == 0) = false := beq_eq_false_iff_ne.mpr c53
                      have c53b1 : (t482 != 0) = true := bne_iff_ne.mpr c53
                      (first | rw [c53b0] | (simp only [i64_w, i32_w]; rw [c53b0]) | skip)
                      have H' := Aside0.mk H
                      clear H
                      go_wp2
                      go_meet
                      case rel => exact ⟨_, (true), (by first | rfl | (simp; done) | (simp [*]; done)), H', ⟨by have := HJ16.out; have := HJ43.out; first | omega | exact Nat.le_refl _⟩, ⟨by (with_reducible repeat (first | apply Kd.R_alloc | apply Kd.R_drewN | apply Kd.R_drew)); exact HO_3.out⟩, ⟨by (with_reducible repeat (first | apply Kd.R_alloc | apply Kd.R_drewN | apply Kd.R_drew)); exact HO_10.out⟩, ⟨by repeat (first | (with_reducible first | exact HB.out | apply below_alloc | apply pw_below_drewN | apply below_drew1) | exact HB.out)⟩⟩
                  case rest =>
                    clear HC51
                    try clear c1
                    try clear c2
                    try clear p2
                    try clear c3
                    try clear c4
                    try clear c5
                    try clear c12
                    try clear c18
                    try clear c19
                    try clear c21
                    try clear c24
                    try clear c26
                    try clear c27
                    try clear c28
                    try clear c29
                    try clear c30
                    try clear c31
                    try clear c36
                    try clear c36b0
                    try clear c36b1
                    try clear c37
                    try clear c37b0
                    try clear c37b1
                    try clear c38
                    try clear c38b0
                    try clear c38b1
                    try clear c39
                    try clear c39b0
                    try clear c39b1
                    try clear c40
                    try clear c40b0
                    try clear c40b1
                    try clear c41
                    try clear c41b0
                    try clear c41b1
                    try clear c42
                    try clear c42b0
                    try clear c42b1
                    try clear c43
                    try clear c44
                    try clear c45
                    try clear c45b0
                    try clear c45b1
                    try clear c46
                    try clear c46b0
                    try clear c47
                    try clear c47b0
                    try clear c47b1
                    try clear c48
                    try clear c49
                    try clear c49b0
                    try clear c49b1
                    try clear c53
                    try clear c53b0
                    try clear c53b1
                    try clear p2
                    obtain ⟨kq, x191_50, rfl, HA, HJ50, HO_3, HO_10, HB⟩ := hcut
                    cases kq with
                    | zero => exact absurd HA.out (by simp [laws_FnPeaks.j2])
                    | succ kj50 =>
                      have H := HA.out
                      clear HA
                      simp only [laws_FnPeaks.j2] at H
                      by_cases c54 : x191_50 = true
                      · subst c54
                        have H1 : (some false) = some r := by rw [if_pos rfl] at H; exact H
                        clear H
                        have H := H1
                        clear H1
                        obtain rfl := Option.some.inj H
                        go_wp2
                        go_ret
                        exact ⟨by first | rfl | (simp [errW_none, errW_some] <;> rfl) | (simp [*, errW_none, errW_some] <;> rfl), by repeat (first | (with_reducible first | exact HB.out | apply below_alloc | apply pw_below_drewN | apply below_drew1) | exact HB.out)⟩
                      · as_aux_lemma =>
                        replace c54 := Bool.eq_false_iff.mpr c54
                        subst c54
                        have H1 : (if t455 > 1 then ((impl_FewestVehicles.f kj50 t451 (wrap64 (t455 - 1))).bind fun bt483 => (if bt483.2 = 4 then (laws_FnPeaks.j3 kj50 t442 t443 t444 t447 t448 false) else (if bt483.2 = 0 then (laws_FnPeaks.j3 kj50 t442 t443 t444 t447 t448 (decide (bt483.1 ≤ t452))) else (laws_FnPeaks.j3 kj50 t442 t443 t444 t447 t448 true)))) else (if t448 = 0 then (if (t442.length : Int) = 0 then (some (t447 == 0)) else ((impl_CountLoadings.f kj50 t442 t447 t444).bind fun bt487 => (if t447 ≤ t443 then (if bt487.2 = 0 then (some (decide (bt487.1 > 0))) else (some false)) else (some false)))) else (some true))) = some r := by rw [if_neg (show ¬ (false = true) by decide)] at H; exact H
                        clear H
                        have H := H1
                        clear H1
                        by_cases c55 : t455 > 1
                        · as_aux_lemma =>
                          rw [if_pos c55] at H
                          have c55b0 : decide (1 < t455) = true := decide_eq_true c55
                          clear c55
                          replace H := Option.bind_eq_some_iff.mp H
                          obtain ⟨⟨t483, t484⟩, A560, H⟩ := H
                          replace H : (if t484 = 4 then (laws_FnPeaks.j3 kj50 t442 t443 t444 t447 t448 false) else (if t484 = 0 then (laws_FnPeaks.j3 kj50 t442 t443 t444 t447 t448 (decide (t483 ≤ t452))) else (laws_FnPeaks.j3 kj50 t442 t443 t444 t447 t448 true))) = some r := H
                          have A56 := Aside0.mk A560
                          clear A560
                          have HC57 := Aside0.mk H
                          clear H
                          go_upto_region 26 with (first | ((with_reducible refine gate_callee (f := 21) rfl ?_); refine goesL_ (some 198) rfl rfl Try.func21 (by kernel_rfl) rfl #[.slice Ao23 t451.length co23, .int .i64 (wrap64 (t455 - 1))] rfl (by (try simp only [List.map_toArray, List.map_cons, List.map_nil]); first | done | rfl | (simp only [List.length_drop, List.length_take]; rfl)) ?_; (with_reducible refine (impl_FewestVehicles.calls kj50 _ _ t451 (wrap64 (t455 - 1)) t483 t484 _ ?side1 ?side2 A56.out).mono ?_); (case side1 => repeat (first | exact (Kd.R_reads' HO_10.out).2.2 | (with_reducible refine Kd.C_alloc ?_ _) | (with_reducible refine Kd.C_drewN ?_ _) | (with_reducible refine Kd.C_drew ?_))); (case side2 => exact (Kd.R_reads' HO_10.out).2.1); rintro e w58 ⟨rfl, hb⟩; refine ⟨_, rfl, ?_⟩; have n0_ := Aside0.mk (Kd.R_below (by (with_reducible repeat (first | apply Kd.R_alloc | apply Kd.R_drewN | apply Kd.R_drew)); exact HO_3.out) hb); have n1_ := Aside0.mk (Kd.R_below (by (with_reducible repeat (first | apply Kd.R_alloc | apply Kd.R_drewN | apply Kd.R_drew)); exact HO_10.out) hb); have n2_ := Aside0.mk (below_step (by repeat (first | (with_reducible first | exact HB.out | apply below_alloc | apply pw_below_drewN | apply below_drew1) | exact HB.out)) hb); clear HO_3; clear HO_10; clear HB; have HO_3 := n0_; have HO_10 := n1_; have HB := n2_; clear n0_ n1_ n2_; (try clear hb); (try clear hb2); (try clear hk); (try clear hi)))
                          (try simp only [Act.put, List.setIfInBounds_toArray, List.set_cons_zero, List.set_cons_succ])
                          go_cut [211] (fun v211 wc => ∃ (kq : Nat) (x211_56 : Bool), v211 = .bool x211_56 ∧ Aside0 (laws_FnPeaks.j3 kq t442 t443 t444 t447 t448 x211_56 = some r) ∧ Aside0 (kq ≤ kj50) ∧ Aside0 (Kd.R k55 55 wc w.heap.size (fun _ => True) (.slice Ao19 t442.length co19) t442) ∧ Aside0 (Below w.heap.size w wc))
                          case first =>
                            have H := HC57.out
                            clear HC57
                            by_cases c59 : t484 = 4
                            · rw [if_pos c59] at H
                              have c59b0 : (t484 == 4) = true := beq_iff_eq.mpr c59
                              have c59b1 : (t484 != 4) = false := bne_eq_false_iff_eq.mpr c59
                              clear c59
                              (first | rw [c59b0] | (simp only [i64_w, i32_w]; rw [c59b0]) | skip)
                              have H' := Aside0.mk H
                              clear H
                              go_wp2
                              go_meet
                              case rel => exact ⟨_, (false), (by first | rfl | (simp; done) | (simp [*]; done)), H', ⟨by have := HJ16.out; have := HJ43.out; have := HJ50.out; first | omega | exact Nat.le_refl _⟩, ⟨by (with_reducible repeat (first | apply Kd.R_alloc | apply Kd.R_drewN | apply Kd.R_drew)); exact Kd.R_mono HO_3.out (fun _ hk => trivial)⟩, ⟨by repeat (first | (with_reducible first | exact HB.out | apply below_alloc | apply pw_below_drewN | apply below_drew1) | exact HB.out)⟩⟩
                            · rw [if_neg c59] at H
                              have c59b0 : (t484 == 4) = false := beq_eq_false_iff_ne.mpr c59
                              have c59b1 : (t484 != 4) = true := bne_iff_ne.mpr c59
                              (first | rw [c59b0] | (simp only [i64_w, i32_w]; rw [c59b0]) | skip)
                              by_cases c60 : t484 = 0
                              · rw [if_pos c60] at H
                                have c60b0 : (t484 == 0) = true := beq_iff_eq.mpr c60
                                have c60b1 : (t484 != 0) = false := bne_eq_false_iff_eq.mpr c60
                                clear c60
                                have H' := Aside0.mk H
                                clear H
                                go_wp2
                                go_meet
                                case rel => exact ⟨_, (decide (t483 ≤ t452)), (by first | rfl | (simp; done) | (simp [*]; done)), H', ⟨by have := HJ16.out; have := HJ43.out; have := HJ50.out; first | omega | exact Nat.le_refl _⟩, ⟨by (with_reducible repeat (first | apply Kd.R_alloc | apply Kd.R_drewN | apply Kd.R_drew)); exact Kd.R_mono HO_3.out (fun _ hk => trivial)⟩, ⟨by repeat (first | (with_reducible first | exact HB.out | apply below_alloc | apply pw_below_drewN | apply below_drew1) | exact HB.out)⟩⟩
                              · rw [if_neg c60] at H
                                have c60b0 : (t484 == 0) = false := beq_eq_false_iff_ne.mpr c60
                                have c60b1 : (t484 != 0) = true := bne_iff_ne.mpr c60
                                have H' := Aside0.mk H
                                clear H
                                go_wp2
                                go_meet
                                case rel => exact ⟨_, (true), (by first | rfl | (simp; done) | (simp [*]; done)), H', ⟨by have := HJ16.out; have := HJ43.out; have := HJ50.out; first | omega | exact Nat.le_refl _⟩, ⟨by (with_reducible repeat (first | apply Kd.R_alloc | apply Kd.R_drewN | apply Kd.R_drew)); exact Kd.R_mono HO_3.out (fun _ hk => trivial)⟩, ⟨by repeat (first | (with_reducible first | exact HB.out | apply below_alloc | apply pw_below_drewN | apply below_drew1) | exact HB.out)⟩⟩
                          case rest =>
                            clear HC57
                            try clear c1
                            try clear c2
                            try clear p2
                            try clear c3
                            try clear c4
                            try clear c5
                            try clear c6
                            try clear p6
                            try clear c12
                            try clear c18
                            try clear c19
                            try clear c21
                            try clear c24
                            try clear c26
                            try clear c27
                            try clear c28
                            try clear c29
                            try clear c30
                            try clear c31
                            try clear c36
                            try clear c36b0
                            try clear c36b1
                            try clear c37
                            try clear c37b0
                            try clear c37b1
                            try clear c38
                            try clear c38b0
                            try clear c38b1
                            try clear c39
                            try clear c39b0
                            try clear c39b1
                            try clear c40
                            try clear c40b0
                            try clear c40b1
                            try clear c41
                            try clear c41b0
                            try clear c41b1
                            try clear c42
                            try clear c42b0
                            try clear c42b1
                            try clear c43
                            try clear c44
                            try clear c45
                            try clear c45b0
                            try clear c45b1
                            try clear c46
                            try clear c46b0
                            try clear c47
                            try clear c47b0
                            try clear c47b1
                            try clear c48
                            try clear c49
                            try clear c49b0
                            try clear c49b1
                            try clear c53
                            try clear c53b0
                            try clear c53b1
                            try clear c54
                            try clear c55
                            try clear c55b0
                            try clear c59
                            try clear c59b0
                            try clear c59b1
                            try clear c60
                            try clear c60b0
                            try clear c60b1
                            try clear p2
                            obtain ⟨kq, x211_56, rfl, HA, HJ56, HO_3, HB⟩ := hcut
                            cases kq with
                            | zero => exact absurd HA.out (by simp [laws_FnPeaks.j3])
                            | succ kj56 =>
                              have H := HA.out
                              clear HA
                              simp only [laws_FnPeaks.j3] at H
                              by_cases c61 : x211_56 = true
                              · subst c61
                                have H1 : (some false) = some r := by rw [if_pos rfl] at H; exact H
                                clear H
                                have H := H1
                                clear H1
                                obtain rfl := Option.some.inj H
                                go_wp2
                                go_ret
                                exact ⟨by first | rfl | (simp [errW_none, errW_some] <;> rfl) | (simp [*, errW_none, errW_some] <;> rfl), by repeat (first | (with_reducible first | exact HB.out | apply below_alloc | apply pw_below_drewN | apply below_drew1) | exact HB.out)⟩
                              · as_aux_lemma =>
                                replace c61 := Bool.eq_false_iff.mpr c61
                                subst c61
                                have H1 : (if t448 = 0 then (if (t442.length : Int) = 0 then (some (t447 == 0)) else ((impl_CountLoadings.f kj56 t442 t447 t444).bind fun bt485 => (if t447 ≤ t443 then (if bt485.2 = 0 then (some (decide (bt485.1 > 0))) else (some false)) else (some false)))) else (some true)) = some r := by rw [if_neg (show ¬ (false = true) by decide)] at H; exact H
                                clear H
                                have H := H1
                                clear H1
                                by_cases c62 : t448 = 0
                                · as_aux_lemma =>
                                  rw [if_pos c62] at H
                                  have c62b0 : (t448 == 0) = true := beq_iff_eq.mpr c62
                                  have c62b1 : (t448 != 0) = false := bne_eq_false_iff_eq.mpr c62
                                  clear c62
                                  by_cases c63 : (t442.length : Int) = 0
                                  · rw [if_pos c63] at H
                                    have c63b0 : ((t442.length : Int) == 0) = true := beq_iff_eq.mpr c63
                                    have c63b1 : ((t442.length : Int) != 0) = false := bne_eq_false_iff_eq.mpr c63
                                    clear c63
                                    obtain rfl := Option.some.inj H
                                    go_wp2
                                    go_ret
                                    exact ⟨by first | rfl | (simp [errW_none, errW_some] <;> rfl) | (simp [*, errW_none, errW_some] <;> rfl), by repeat (first | (with_reducible first | exact HB.out | apply below_alloc | apply pw_below_drewN | apply below_drew1) | exact HB.out)⟩
                                  · as_aux_lemma =>
                                    rw [if_neg c63] at H
                                    have c63b0 : ((t442.length : Int) == 0) = false := beq_eq_false_iff_ne.mpr c63
                                    have c63b1 : ((t442.length : Int) != 0) = true := bne_iff_ne.mpr c63
                                    have c63b2 : ¬ (t442 = []) := fun h_ => c63 (by rw [h_]; rfl)
                                    replace H := Option.bind_eq_some_iff.mp H
                                    obtain ⟨⟨t485, t486⟩, A640, H⟩ := H
                                    replace H : (if t447 ≤ t443 then (if t486 = 0 then (some (decide (t485 > 0))) else (some false)) else (some false)) = some r := H
                                    have A64 := Aside0.mk A640
                                    clear A640
                                    by_cases c65 : t447 ≤ t443
                                    · rw [if_pos c65] at H
                                      have c65b0 : decide (t447 ≤ t443) = true := decide_eq_true c65
                                      clear c65
                                      by_cases c66 : t486 = 0
                                      · rw [if_pos c66] at H
                                        have c66b0 : (t486 == 0) = true := beq_iff_eq.mpr c66
                                        have c66b1 : (t486 != 0) = false := bne_eq_false_iff_eq.mpr c66
                                        clear c66
                                        obtain rfl := Option.some.inj H
                                        go_wp2_with (first | ((with_reducible refine gate_callee (f := 19) rfl ?_); refine goesL_ (some 229) rfl rfl Try.func19 (by kernel_rfl) rfl #[.slice Ao19 t442.length co19, .int .i64 t447, .int .i64 t444] rfl (by (try simp only [List.map_toArray, List.map_cons, List.map_nil]); first | done | rfl | (simp only [List.length_drop, List.length_take]; rfl)) ?_; (with_reducible refine (impl_CountLoadings.calls kj56 _ _ t442 t447 t444 t485 t486 _ ?side1 ?side2 A64.out).mono ?_); (case side1 => repeat (first | exact (Kd.R_reads' HO_3.out).2.2 | (with_reducible refine Kd.C_alloc ?_ _) | (with_reducible refine Kd.C_drewN ?_ _) | (with_reducible refine Kd.C_drew ?_))); (case side2 => exact (Kd.R_reads' HO_3.out).2.1); rintro e w67 ⟨rfl, hb⟩; refine ⟨_, rfl, ?_⟩; have n0_ := Aside0.mk (Kd.R_below (by (with_reducible repeat (first | apply Kd.R_alloc | apply Kd.R_drewN | apply Kd.R_drew)); exact HO_3.out) hb); have n1_ := Aside0.mk (below_step (by repeat (first | (with_reducible first | exact HB.out | apply below_alloc | apply pw_below_drewN | apply below_drew1) | exact HB.out)) hb); clear HO_3; clear HB; have HO_3 := n0_; have HB := n1_; clear n0_ n1_; (try clear hb); (try clear hb2); (try clear hk); (try clear hi)))
                                        go_ret
                                        exact ⟨by first | rfl | (simp [errW_none, errW_some] <;> rfl) | (simp [*, errW_none, errW_some] <;> rfl), by repeat (first | (with_reducible first | exact HB.out | apply below_alloc | apply pw_below_drewN | apply below_drew1) | exact HB.out)⟩
                                      · rw [if_neg c66] at H
                                        have c66b0 : (t486 == 0) = false := beq_eq_false_iff_ne.mpr c66
                                        have c66b1 : (t486 != 0) = true := bne_iff_ne.mpr c66
                                        obtain rfl := Option.some.inj H
                                        go_wp2_with (first | ((with_reducible refine gate_callee (f := 19) rfl ?_); refine goesL_ (some 229) rfl rfl Try.func19 (by kernel_rfl) rfl #[.slice Ao19 t442.length co19, .int .i64 t447, .int .i64 t444] rfl (by (try simp only [List.map_toArray, List.map_cons, List.map_nil]); first | done | rfl | (simp only [List.length_drop, List.length_take]; rfl)) ?_; (with_reducible refine (impl_CountLoadings.calls kj56 _ _ t442 t447 t444 t485 t486 _ ?side1 ?side2 A64.out).mono ?_); (case side1 => repeat (first | exact (Kd.R_reads' HO_3.out).2.2 | (with_reducible refine Kd.C_alloc ?_ _) | (with_reducible refine Kd.C_drewN ?_ _) | (with_reducible refine Kd.C_drew ?_))); (case side2 => exact (Kd.R_reads' HO_3.out).2.1); rintro e w68 ⟨rfl, hb⟩; refine ⟨_, rfl, ?_⟩; have n0_ := Aside0.mk (Kd.R_below (by (with_reducible repeat (first | apply Kd.R_alloc | apply Kd.R_drewN | apply Kd.R_drew)); exact HO_3.out) hb); have n1_ := Aside0.mk (below_step (by repeat (first | (with_reducible first | exact HB.out | apply below_alloc | apply pw_below_drewN | apply below_drew1) | exact HB.out)) hb); clear HO_3; clear HB; have HO_3 := n0_; have HB := n1_; clear n0_ n1_; (try clear hb); (try clear hb2); (try clear hk); (try clear hi)))
                                        go_ret
                                        exact ⟨by first | rfl | (simp [errW_none, errW_some] <;> rfl) | (simp [*, errW_none, errW_some] <;> rfl), by repeat (first | (with_reducible first | exact HB.out | apply below_alloc | apply pw_below_drewN | apply below_drew1) | exact HB.out)⟩
                                    · rw [if_neg c65] at H
                                      have c65b0 : decide (t447 ≤ t443) = false := decide_eq_false c65
                                      clear c65
                                      obtain rfl := Option.some.inj H
                                      go_wp2_with (first | ((with_reducible refine gate_callee (f := 19) rfl ?_); refine goesL_ (some 229) rfl rfl Try.func19 (by kernel_rfl) rfl #[.slice Ao19 t442.length co19, .int .i64 t447, .int .i64 t444] rfl (by (try simp only [List.map_toArray, List.map_cons, List.map_nil]); first | done | rfl | (simp only [List.length_drop, List.length_take]; rfl)) ?_; (with_reducible refine (impl_CountLoadings.calls kj56 _ _ t442 t447 t444 t485 t486 _ ?side1 ?side2 A64.out).mono ?_); (case side1 => repeat (first | exact (Kd.R_reads' HO_3.out).2.2 | (with_reducible refine Kd.C_alloc ?_ _) | (with_reducible refine Kd.C_drewN ?_ _) | (with_reducible refine Kd.C_drew ?_))); (case side2 => exact (Kd.R_reads' HO_3.out).2.1); rintro e w69 ⟨rfl, hb⟩; refine ⟨_, rfl, ?_⟩; have n0_ := Aside0.mk (Kd.R_below (by (with_reducible repeat (first | apply Kd.R_alloc | apply Kd.R_drewN | apply Kd.R_drew)); exact HO_3.out) hb); have n1_ := Aside0.mk (below_step (by repeat (first | (with_reducible first | exact HB.out | apply below_alloc | apply pw_below_drewN | apply below_drew1) | exact HB.out)) hb); clear HO_3; clear HB; have HO_3 := n0_; have HB := n1_; clear n0_ n1_; (try clear hb); (try clear hb2); (try clear hk); (try clear hi)))
                                      go_ret
                                      exact ⟨by first | rfl | (simp [errW_none, errW_some] <;> rfl) | (simp [*, errW_none, errW_some] <;> rfl), by repeat (first | (with_reducible first | exact HB.out | apply below_alloc | apply pw_below_drewN | apply below_drew1) | exact HB.out)⟩
                                · rw [if_neg c62] at H
                                  have c62b0 : (t448 == 0) = false := beq_eq_false_iff_ne.mpr c62
                                  have c62b1 : (t448 != 0) = true := bne_iff_ne.mpr c62
                                  obtain rfl := Option.some.inj H
                                  go_wp2
                                  go_ret
                                  exact ⟨by first | rfl | (simp [errW_none, errW_some] <;> rfl) | (simp [*, errW_none, errW_some] <;> rfl), by repeat (first | (with_reducible first | exact HB.out | apply below_alloc | apply pw_below_drewN | apply below_drew1) | exact HB.out)⟩
                        · as_aux_lemma =>
                          rw [if_neg c55] at H
                          have c55b0 : decide (1 < t455) = false := decide_eq_false c55
                          clear c55
                          by_cases c70 : t448 = 0
                          · as_aux_lemma =>
                            rw [if_pos c70] at H
                            have c70b0 : (t448 == 0) = true := beq_iff_eq.mpr c70
                            have c70b1 : (t448 != 0) = false := bne_eq_false_iff_eq.mpr c70
                            clear c70
                            by_cases c71 : (t442.length : Int) = 0
                            · rw [if_pos c71] at H
                              have c71b0 : ((t442.length : Int) == 0) = true := beq_iff_eq.mpr c71
                              have c71b1 : ((t442.length : Int) != 0) = false := bne_eq_false_iff_eq.mpr c71
                              clear c71
                              obtain rfl := Option.some.inj H
                              go_wp2
                              go_ret
                              exact ⟨by first | rfl | (simp [errW_none, errW_some] <;> rfl) | (simp [*, errW_none, errW_some] <;> rfl), by repeat (first | (with_reducible first | exact HB.out | apply below_alloc | apply pw_below_drewN | apply below_drew1) | exact HB.out)⟩
                            · as_aux_lemma =>
                              rw [if_neg c71] at H
                              have c71b0 : ((t442.length : Int) == 0) = false := beq_eq_false_iff_ne.mpr c71
                              have c71b1 : ((t442.length : Int) != 0) = true := bne_iff_ne.mpr c71
                              have c71b2 : ¬ (t442 = []) := fun h_ => c71 (by rw [h_]; rfl)
                              replace H := Option.bind_eq_some_iff.mp H
                              obtain ⟨⟨t487, t488⟩, A720, H⟩ := H
                              replace H : (if t447 ≤ t443 then (if t488 = 0 then (some (decide (t487 > 0))) else (some false)) else (some false)) = some r := H
                              have A72 := Aside0.mk A720
                              clear A720
                              by_cases c73 : t447 ≤ t443
                              · rw [if_pos c73] at H
                                have c73b0 : decide (t447 ≤ t443) = true := decide_eq_true c73
                                clear c73
                                by_cases c74 : t488 = 0
                                · rw [if_pos c74] at H
                                  have c74b0 : (t488 == 0) = true := beq_iff_eq.mpr c74
                                  have c74b1 : (t488 != 0) = false := bne_eq_false_iff_eq.mpr c74
                                  clear c74
                                  obtain rfl := Option.some.inj H
                                  go_wp2_with (first | ((with_reducible refine gate_callee (f := 19) rfl ?_); refine goesL_ (some 229) rfl rfl Try.func19 (by kernel_rfl) rfl #[.slice Ao19 t442.length co19, .int .i64 t447, .int .i64 t444] rfl (by (try simp only [List.map_toArray, List.map_cons, List.map_nil]); first | done | rfl | (simp only [List.length_drop, List.length_take]; rfl)) ?_; (with_reducible refine (impl_CountLoadings.calls kj50 _ _ t442 t447 t444 t487 t488 _ ?side1 ?side2 A72.out).mono ?_); (case side1 => repeat (first | exact (Kd.R_reads' HO_3.out).2.2 | (with_reducible refine Kd.C_alloc ?_ _) | (with_reducible refine Kd.C_drewN ?_ _) | (with_reducible refine Kd.C_drew ?_))); (case side2 => exact (Kd.R_reads' HO_3.out).2.1); rintro e w75 ⟨rfl, hb⟩; refine ⟨_, rfl, ?_⟩; have n0_ := Aside0.mk (Kd.R_below (by (with_reducible repeat (first | apply Kd.R_alloc | apply Kd.R_drewN | apply Kd.R_drew)); exact HO_3.out) hb); have n1_ := Aside0.mk (Kd.R_below (by (with_reducible repeat (first | apply Kd.R_alloc | apply Kd.R_drewN | apply Kd.R_drew)); exact HO_10.out) hb); have n2_ := Aside0.mk (below_step (by repeat (first | (with_reducible first | exact HB.out | apply below_alloc | apply pw_below_drewN | apply below_drew1) | exact HB.out)) hb); clear HO_3; clear HO_10; clear HB; have HO_3 := n0_; have HO_10 := n1_; have HB := n2_; clear n0_ n1_ n2_; (try clear hb); (try clear hb2); (try clear hk); (try clear hi)))
                                  go_ret
                                  exact ⟨by first | rfl | (simp [errW_none, errW_some] <;> rfl) | (simp [*, errW_none, errW_some] <;> rfl), by repeat (first | (with_reducible first | exact HB.out | apply below_alloc | apply pw_below_drewN | apply below_drew1) | exact HB.out)⟩
                                · rw [if_neg c74] at H
                                  have c74b0 : (t488 == 0) = false := beq_eq_false_iff_ne.mpr c74
                                  have c74b1 : (t488 != 0) = true := bne_iff_ne.mpr c74
                                  obtain rfl := Option.some.inj H
                                  go_wp2_with (first | ((with_reducible refine gate_callee (f := 19) rfl ?_); refine goesL_ (some 229) rfl rfl Try.func19 (by kernel_rfl) rfl #[.slice Ao19 t442.length co19, .int .i64 t447, .int .i64 t444] rfl (by (try simp only [List.map_toArray, List.map_cons, List.map_nil]); first | done | rfl | (simp only [List.length_drop, List.length_take]; rfl)) ?_; (with_reducible refine (impl_CountLoadings.calls kj50 _ _ t442 t447 t444 t487 t488 _ ?side1 ?side2 A72.out).mono ?_); (case side1 => repeat (first | exact (Kd.R_reads' HO_3.out).2.2 | (with_reducible refine Kd.C_alloc ?_ _) | (with_reducible refine Kd.C_drewN ?_ _) | (with_reducible refine Kd.C_drew ?_))); (case side2 => exact (Kd.R_reads' HO_3.out).2.1); rintro e w76 ⟨rfl, hb⟩; refine ⟨_, rfl, ?_⟩; have n0_ := Aside0.mk (Kd.R_below (by (with_reducible repeat (first | apply Kd.R_alloc | apply Kd.R_drewN | apply Kd.R_drew)); exact HO_3.out) hb); have n1_ := Aside0.mk (Kd.R_below (by (with_reducible repeat (first | apply Kd.R_alloc | apply Kd.R_drewN | apply Kd.R_drew)); exact HO_10.out) hb); have n2_ := Aside0.mk (below_step (by repeat (first | (with_reducible first | exact HB.out | apply below_alloc | apply pw_below_drewN | apply below_drew1) | exact HB.out)) hb); clear HO_3; clear HO_10; clear HB; have HO_3 := n0_; have HO_10 := n1_; have HB := n2_; clear n0_ n1_ n2_; (try clear hb); (try clear hb2); (try clear hk); (try clear hi)))
                                  go_ret
                                  exact ⟨by first | rfl | (simp [errW_none, errW_some] <;> rfl) | (simp [*, errW_none, errW_some] <;> rfl), by repeat (first | (with_reducible first | exact HB.out | apply below_alloc | apply pw_below_drewN | apply below_drew1) | exact HB.out)⟩
                              · rw [if_neg c73] at H
                                have c73b0 : decide (t447 ≤ t443) = false := decide_eq_false c73
                                clear c73
                                obtain rfl := Option.some.inj H
                                go_wp2_with (first | ((with_reducible refine gate_callee (f := 19) rfl ?_); refine goesL_ (some 229) rfl rfl Try.func19 (by kernel_rfl) rfl #[.slice Ao19 t442.length co19, .int .i64 t447, .int .i64 t444] rfl (by (try simp only [List.map_toArray, List.map_cons, List.map_nil]); first | done | rfl | (simp only [List.length_drop, List.length_take]; rfl)) ?_; (with_reducible refine (impl_CountLoadings.calls kj50 _ _ t442 t447 t444 t487 t488 _ ?side1 ?side2 A72.out).mono ?_); (case side1 => repeat (first | exact (Kd.R_reads' HO_3.out).2.2 | (with_reducible refine Kd.C_alloc ?_ _) | (with_reducible refine Kd.C_drewN ?_ _) | (with_reducible refine Kd.C_drew ?_))); (case side2 => exact (Kd.R_reads' HO_3.out).2.1); rintro e w77 ⟨rfl, hb⟩; refine ⟨_, rfl, ?_⟩; have n0_ := Aside0.mk (Kd.R_below (by (with_reducible repeat (first | apply Kd.R_alloc | apply Kd.R_drewN | apply Kd.R_drew)); exact HO_3.out) hb); have n1_ := Aside0.mk (Kd.R_below (by (with_reducible repeat (first | apply Kd.R_alloc | apply Kd.R_drewN | apply Kd.R_drew)); exact HO_10.out) hb); have n2_ := Aside0.mk (below_step (by repeat (first | (with_reducible first | exact HB.out | apply below_alloc | apply pw_below_drewN | apply below_drew1) | exact HB.out)) hb); clear HO_3; clear HO_10; clear HB; have HO_3 := n0_; have HO_10 := n1_; have HB := n2_; clear n0_ n1_ n2_; (try clear hb); (try clear hb2); (try clear hk); (try clear hi)))
                                go_ret
                                exact ⟨by first | rfl | (simp [errW_none, errW_some] <;> rfl) | (simp [*, errW_none, errW_some] <;> rfl), by repeat (first | (with_reducible first | exact HB.out | apply below_alloc | apply pw_below_drewN | apply below_drew1) | exact HB.out)⟩
                          · rw [if_neg c70] at H
                            have c70b0 : (t448 == 0) = false := beq_eq_false_iff_ne.mpr c70
                            have c70b1 : (t448 != 0) = true := bne_iff_ne.mpr c70
                            obtain rfl := Option.some.inj H
                            go_wp2
                            go_ret
                            exact ⟨by first | rfl | (simp [errW_none, errW_some] <;> rfl) | (simp [*, errW_none, errW_some] <;> rfl), by repeat (first | (with_reducible first | exact HB.out | apply below_alloc | apply pw_below_drewN | apply below_drew1) | exact HB.out)⟩
                · as_aux_lemma =>
                  rw [if_neg c49] at H
                  have c49b0 : (t456 == 0) = false := beq_eq_false_iff_ne.mpr c49
                  have c49b1 : (t456 != 0) = true := bne_iff_ne.mpr c49
                  by_cases c78 : t448 = 0
                  · as_aux_lemma =>
                    rw [if_pos c78] at H
                    have c78b0 : (t448 == 0) = true := beq_iff_eq.mpr c78
                    have c78b1 : (t448 != 0) = false := bne_eq_false_iff_eq.mpr c78
                    clear c78
                    by_cases c79 : (t442.length : Int) = 0
                    · rw [if_pos c79] at H
                      have c79b0 : ((t442.length : Int) == 0) = true := beq_iff_eq.mpr c79
                      have c79b1 : ((t442.length : Int) != 0) = false := bne_eq_false_iff_eq.mpr c79
                      clear c79
                      obtain rfl := Option.some.inj H
                      go_wp2
                      go_ret
                      exact ⟨by first | rfl | (simp [errW_none, errW_some] <;> rfl) | (simp [*, errW_none, errW_some] <;> rfl), by repeat (first | (with_reducible first | exact HB.out | apply below_alloc | apply pw_below_drewN | apply below_drew1) | exact HB.out)⟩
                    · as_aux_lemma =>
                      rw [if_neg c79] at H
                      have c79b0 : ((t442.length : Int) == 0) = false := beq_eq_false_iff_ne.mpr c79
                      have c79b1 : ((t442.length : Int) != 0) = true := bne_iff_ne.mpr c79
                      have c79b2 : ¬ (t442 = []) := fun h_ => c79 (by rw [h_]; rfl)
                      replace H := Option.bind_eq_some_iff.mp H
                      obtain ⟨⟨t489, t490⟩, A800, H⟩ := H
                      replace H : (if t447 ≤ t443 then (if t490 = 0 then (some (decide (t489 > 0))) else (some false)) else (some false)) = some r := H
                      have A80 := Aside0.mk A800
                      clear A800
                      by_cases c81 : t447 ≤ t443
                      · rw [if_pos c81] at H
                        have c81b0 : decide (t447 ≤ t443) = true := decide_eq_true c81
                        clear c81
                        by_cases c82 : t490 = 0
                        · rw [if_pos c82] at H
                          have c82b0 : (t490 == 0) = true := beq_iff_eq.mpr c82
                          have c82b1 : (t490 != 0) = false := bne_eq_false_iff_eq.mpr c82
                          clear c82
                          obtain rfl := Option.some.inj H
                          go_wp2_with (first | ((with_reducible refine gate_callee (f := 19) rfl ?_); refine goesL_ (some 229) rfl rfl Try.func19 (by kernel_rfl) rfl #[.slice Ao19 t442.length co19, .int .i64 t447, .int .i64 t444] rfl (by (try simp only [List.map_toArray, List.map_cons, List.map_nil]); first | done | rfl | (simp only [List.length_drop, List.length_take]; rfl)) ?_; (with_reducible refine (impl_CountLoadings.calls kj43 _ _ t442 t447 t444 t489 t490 _ ?side1 ?side2 A80.out).mono ?_); (case side1 => repeat (first | exact (Kd.R_reads' HO_3.out).2.2 | (with_reducible refine Kd.C_alloc ?_ _) | (with_reducible refine Kd.C_drewN ?_ _) | (with_reducible refine Kd.C_drew ?_))); (case side2 => exact (Kd.R_reads' HO_3.out).2.1); rintro e w83 ⟨rfl, hb⟩; refine ⟨_, rfl, ?_⟩; have n0_ := Aside0.mk (Kd.R_below (by (with_reducible repeat (first | apply Kd.R_alloc | apply Kd.R_drewN | apply Kd.R_drew)); exact HO_3.out) hb); have n1_ := Aside0.mk (Kd.R_below (by (with_reducible repeat (first | apply Kd.R_alloc | apply Kd.R_drewN | apply Kd.R_drew)); exact HO_10.out) hb); have n2_ := Aside0.mk (below_step (by repeat (first | (with_reducible first | exact HB.out | apply below_alloc | apply pw_below_drewN | apply below_drew1) | exact HB.out)) hb); clear HO_3; clear HO_10; clear HB; have HO_3 := n0_; have HO_10 := n1_; have HB := n2_; clear n0_ n1_ n2_; (try clear hb); (try clear hb2); (try clear hk); (try clear hi)))
                          go_ret
                          exact ⟨by first | rfl | (simp [errW_none, errW_some] <;> rfl) | (simp [*, errW_none, errW_some] <;> rfl), by repeat (first | (with_reducible first | exact HB.out | apply below_alloc | apply pw_below_drewN | apply below_drew1) | exact HB.out)⟩
                        · rw [if_neg c82] at H
                          have c82b0 : (t490 == 0) = false := beq_eq_false_iff_ne.mpr c82
                          have c82b1 : (t490 != 0) = true := bne_iff_ne.mpr c82
                          obtain rfl := Option.some.inj H
                          go_wp2_with (first | ((with_reducible refine gate_callee (f := 19) rfl ?_); refine goesL_ (some 229) rfl rfl Try.func19 (by kernel_rfl) rfl #[.slice Ao19 t442.length co19, .int .i64 t447, .int .i64 t444] rfl (by (try simp only [List.map_toArray, List.map_cons, List.map_nil]); first | done | rfl | (simp only [List.length_drop, List.length_take]; rfl)) ?_; (with_reducible refine (impl_CountLoadings.calls kj43 _ _ t442 t447 t444 t489 t490 _ ?side1 ?side2 A80.out).mono ?_); (case side1 => repeat (first | exact (Kd.R_reads' HO_3.out).2.2 | (with_reducible refine Kd.C_alloc ?_ _) | (with_reducible refine Kd.C_drewN ?_ _) | (with_reducible refine Kd.C_drew ?_))); (case side2 => exact (Kd.R_reads' HO_3.out).2.1); rintro e w84 ⟨rfl, hb⟩; refine ⟨_, rfl, ?_⟩; have n0_ := Aside0.mk (Kd.R_below (by (with_reducible repeat (first | apply Kd.R_alloc | apply Kd.R_drewN | apply Kd.R_drew)); exact HO_3.out) hb); have n1_ := Aside0.mk (Kd.R_below (by (with_reducible repeat (first | apply Kd.R_alloc | apply Kd.R_drewN | apply Kd.R_drew)); exact HO_10.out) hb); have n2_ := Aside0.mk (below_step (by repeat (first | (with_reducible first | exact HB.out | apply below_alloc | apply pw_below_drewN | apply below_drew1) | exact HB.out)) hb); clear HO_3; clear HO_10; clear HB; have HO_3 := n0_; have HO_10 := n1_; have HB := n2_; clear n0_ n1_ n2_; (try clear hb); (try clear hb2); (try clear hk); (try clear hi)))
                          go_ret
                          exact ⟨by first | rfl | (simp [errW_none, errW_some] <;> rfl) | (simp [*, errW_none, errW_some] <;> rfl), by repeat (first | (with_reducible first | exact HB.out | apply below_alloc | apply pw_below_drewN | apply below_drew1) | exact HB.out)⟩
                      · rw [if_neg c81] at H
                        have c81b0 : decide (t447 ≤ t443) = false := decide_eq_false c81
                        clear c81
                        obtain rfl := Option.some.inj H
                        go_wp2_with (first | ((with_reducible refine gate_callee (f := 19) rfl ?_); refine goesL_ (some 229) rfl rfl Try.func19 (by kernel_rfl) rfl #[.slice Ao19 t442.length co19, .int .i64 t447, .int .i64 t444] rfl (by (try simp only [List.map_toArray, List.map_cons, List.map_nil]); first | done | rfl | (simp only [List.length_drop, List.length_take]; rfl)) ?_; (with_reducible refine (impl_CountLoadings.calls kj43 _ _ t442 t447 t444 t489 t490 _ ?side1 ?side2 A80.out).mono ?_); (case side1 => repeat (first | exact (Kd.R_reads' HO_3.out).2.2 | (with_reducible refine Kd.C_alloc ?_ _) | (with_reducible refine Kd.C_drewN ?_ _) | (with_reducible refine Kd.C_drew ?_))); (case side2 => exact (Kd.R_reads' HO_3.out).2.1); rintro e w85 ⟨rfl, hb⟩; refine ⟨_, rfl, ?_⟩; have n0_ := Aside0.mk (Kd.R_below (by (with_reducible repeat (first | apply Kd.R_alloc | apply Kd.R_drewN | apply Kd.R_drew)); exact HO_3.out) hb); have n1_ := Aside0.mk (Kd.R_below (by (with_reducible repeat (first | apply Kd.R_alloc | apply Kd.R_drewN | apply Kd.R_drew)); exact HO_10.out) hb); have n2_ := Aside0.mk (below_step (by repeat (first | (with_reducible first | exact HB.out | apply below_alloc | apply pw_below_drewN | apply below_drew1) | exact HB.out)) hb); clear HO_3; clear HO_10; clear HB; have HO_3 := n0_; have HO_10 := n1_; have HB := n2_; clear n0_ n1_ n2_; (try clear hb); (try clear hb2); (try clear hk); (try clear hi)))
                        go_ret
                        exact ⟨by first | rfl | (simp [errW_none, errW_some] <;> rfl) | (simp [*, errW_none, errW_some] <;> rfl), by repeat (first | (with_reducible first | exact HB.out | apply below_alloc | apply pw_below_drewN | apply below_drew1) | exact HB.out)⟩
                  · rw [if_neg c78] at H
                    have c78b0 : (t448 == 0) = false := beq_eq_false_iff_ne.mpr c78
                    have c78b1 : (t448 != 0) = true := bne_iff_ne.mpr c78
                    obtain rfl := Option.some.inj H
                    go_wp2
                    go_ret
                    exact ⟨by first | rfl | (simp [errW_none, errW_some] <;> rfl) | (simp [*, errW_none, errW_some] <;> rfl), by repeat (first | (with_reducible first | exact HB.out | apply below_alloc | apply pw_below_drewN | apply below_drew1) | exact HB.out)⟩

/-- THE ONE PURE STATEMENT of laws_FnPeaks: yours. -/
def laws_FnPeaks.Pure : Prop := ∀ (l0 : List Int), l0.length ≤ maxLen → l0.length * 1 ≤ 140737488351232 → (∀ x ∈ l0, (Lit.int .u8 x).wf = true) → ∃ k, laws_FnPeaks.f k l0 = some true
theorem laws_FnPeaks.walk (P : laws_FnPeaks.Pure) (a0 : Option Addr) (len0 cap0 : Nat) (z0 : List Int) (w : World) (w0 : (a0 = none ∧ len0 = 0 ∧ cap0 = 0 ∧ z0 = []) ∨ ∃ x, a0 = some x ∧ len0 ≤ cap0 ∧ cap0 ≤ maxLen ∧ z0.length = cap0 ∧ (∀ i, i < z0.length → w.cell? (x.add i) = some (.int .u8 (z0.getD i 0))) ∧ ∀ n ∈ z0, (Lit.int .u8 n).wf = true) (y0 : len0 * 1 ≤ 140737488351232) :
    Calls Try.prog 12 #[.slice a0 len0 cap0] w fun e w' => e = .returned (.bool true) ∧ Below w.heap.size w w' := by
  obtain ⟨l0, rfl, hr0, hm0, hw0, hc0⟩ := ReadsInt.ofRowC w0
  obtain ⟨k, h⟩ := P l0 hm0 y0 hw0
  refine (laws_FnPeaks.calls k _ _ l0 true w (Kd.C_of_reads (d := (0 : Int)) (h1 := fun _ => rfl) hr0) hc0 h).mono ?_
  rintro e w' ⟨rfl, hd⟩
  exact ⟨rfl, hd⟩

end Go.Proofs.Ytjnfimhckeihhaa.PFnPeaks
