/- Functions and contracts that FnHops reaches (7 of 7). -/
import Derived.Test.YtddejaomlnldiaaQFnHopsx5
namespace Go.Proofs.Ytddejaomlnldiaa.PFnHops
open Go.RowKit Go.Proofs.YtddejaomlnldiaaW.PrintWords Go.Proofs.YtddejaomlnldiaaW.PrintLast Go.Proofs.YtddejaomlnldiaaW.PrintMore
attribute [local go_sem] max2_int min2_int max_two min_two max_three min_three max_four min_four   -- for this text's walks alone
set_option linter.unusedVariables false
set_option linter.unusedSimpArgs false

/-! ### laws_FnHops: function 6 -/
mutual
def laws_FnHops.j0 : Nat → List (S63) → Int → Int → Int → Int → Int → List (S63) → Int → Int → Int → List Int → Int → List (S63) → Int → Int → Int → List (S63) → Int → Int → Int → Int → Int → Bool → Option (Bool)
  | 0, _, _, _, _, _, _, _, _, _, _, _, _, _, _, _, _, _, _, _, _, _, _, _ => none
  | k + 1, x3, x4, x5, x6, x7, x8, x11, x12, x13, x14, x15, x16, x19, x20, x21, x22, x25, x26, x27, x28, x29, x30, x170 => if x170 = true then (some false) else (laws_FnHops.l0 k x3 x4 x5 x6 x7 x8 x11 x12 x13 x14 x15 x16 x19 x20 x21 x22 x25 x26 x27 x28 x29 x30 0)
def laws_FnHops.l0 : Nat → List (S63) → Int → Int → Int → Int → Int → List (S63) → Int → Int → Int → List Int → Int → List (S63) → Int → Int → Int → List (S63) → Int → Int → Int → Int → Int → Int → Option (Bool)
  | 0, _, _, _, _, _, _, _, _, _, _, _, _, _, _, _, _, _, _, _, _, _, _, _ => none
  | k + 1, x3, x4, x5, x6, x7, x8, x11, x12, x13, x14, x15, x16, x19, x20, x21, x22, x25, x26, x27, x28, x29, x30, x33 => if x16 = 0 then (laws_FnHops.j2 k x3 x4 x5 x6 x7 x8 x11 x12 x13 x14 x15 x16 x19 x20 x21 x22 x25 x26 x27 x28 x29 x30 x33 (decide (x33 < (x11.length : Int)))) else (laws_FnHops.j2 k x3 x4 x5 x6 x7 x8 x11 x12 x13 x14 x15 x16 x19 x20 x21 x22 x25 x26 x27 x28 x29 x30 x33 false)
def laws_FnHops.j2 : Nat → List (S63) → Int → Int → Int → Int → Int → List (S63) → Int → Int → Int → List Int → Int → List (S63) → Int → Int → Int → List (S63) → Int → Int → Int → Int → Int → Int → Bool → Option (Bool)
  | 0, _, _, _, _, _, _, _, _, _, _, _, _, _, _, _, _, _, _, _, _, _, _, _, _ => none
  | k + 1, x3, x4, x5, x6, x7, x8, x11, x12, x13, x14, x15, x16, x19, x20, x21, x22, x25, x26, x27, x28, x29, x30, x33, x178 => if x178 = true then ((impl_StopTick.f k x11 x12 x13 x33).bind fun bt386 => (if bt386.2 = 0 then ((laws_hasInt.f k x15 x33).bind fun t388 => (if (t388 != (decide (bt386.1 ≤ x14))) = true then (some false) else (laws_FnHops.l0 k x3 x4 x5 x6 x7 x8 x11 x12 x13 x14 x15 x16 x19 x20 x21 x22 x25 x26 x27 x28 x29 x30 (wrap64 (x33 + 1))))) else (some false))) else (if x22 = 0 then ((impl_LastStop.f k x19 x21 0).bind fun bt389 => (if bt389.2 = 0 then (laws_FnHops.j3 k x3 x4 x5 x6 x7 x8 x19 x20 x21 x25 x26 x27 x28 x29 x30 (decide (bt389.1 > x20))) else (laws_FnHops.j3 k x3 x4 x5 x6 x7 x8 x19 x20 x21 x25 x26 x27 x28 x29 x30 true))) else (laws_FnHops.j4 k x3 x4 x5 x6 x7 x8 x25 x26 x27 x28 x29 x30))
def laws_FnHops.j4 : Nat → List (S63) → Int → Int → Int → Int → Int → List (S63) → Int → Int → Int → Int → Int → Option (Bool)
  | 0, _, _, _, _, _, _, _, _, _, _, _, _ => none
  | k + 1, x3, x4, x5, x6, x7, x8, x25, x26, x27, x28, x29, x30 => if x30 = 0 then ((impl_StopTick.f k x25 x26 x29 x27).bind fun bt393 => (if bt393.2 = 0 then (laws_FnHops.j5 k x3 x4 x5 x6 x7 x8 (bt393.1 != x28)) else (laws_FnHops.j5 k x3 x4 x5 x6 x7 x8 true))) else (if x8 = 0 then ((impl_DepthOf.f k x3 x6).bind fun bt397 => (if bt397.2 = 0 then (some (x7 == (wrap64 (x5 + (wrap64 (bt397.1 * x4)))))) else (some false))) else (some true))
def laws_FnHops.j5 : Nat → List (S63) → Int → Int → Int → Int → Int → Bool → Option (Bool)
  | 0, _, _, _, _, _, _, _ => none
  | k + 1, x3, x4, x5, x6, x7, x8, x247 => if x247 = true then (some false) else (if x8 = 0 then ((impl_DepthOf.f k x3 x6).bind fun bt395 => (if bt395.2 = 0 then (some (x7 == (wrap64 (x5 + (wrap64 (bt395.1 * x4)))))) else (some false))) else (some true))
def laws_FnHops.j3 : Nat → List (S63) → Int → Int → Int → Int → Int → List (S63) → Int → Int → List (S63) → Int → Int → Int → Int → Int → Bool → Option (Bool)
  | 0, _, _, _, _, _, _, _, _, _, _, _, _, _, _, _, _ => none
  | k + 1, x3, x4, x5, x6, x7, x8, x19, x20, x21, x25, x26, x27, x28, x29, x30, x214 => if x214 = true then (some false) else (if x21 < 10 then ((impl_LastStop.f k x19 (wrap64 (x21 + 1)) 0).bind fun bt391 => (if bt391.2 = 0 then (if bt391.1 ≤ x20 then (some false) else (laws_FnHops.j4 k x3 x4 x5 x6 x7 x8 x25 x26 x27 x28 x29 x30)) else (some false))) else (laws_FnHops.j4 k x3 x4 x5 x6 x7 x8 x25 x26 x27 x28 x29 x30))
end
def laws_FnHops.f (k : Nat) (l0 : List Int) : Option (Bool) := (laws_big.f l0).bind fun t342 => (if t342 = true then (some true) else ((spec_DrawStopTick.f k l0).bind fun bt343 => ((impl_StopTick.f k bt343.1 bt343.2.1 bt343.2.2.1 bt343.2.2.2).bind fun bt349 => ((spec_StopTick.f k bt343.1 bt343.2.1 bt343.2.2.1 bt343.2.2.2).bind fun bt351 => ((spec_DrawStoppedModules.f k l0).bind fun bt353 => ((impl_StoppedModules.f k bt353.1 bt353.2.1 bt353.2.2.1 bt353.2.2.2).bind fun bt359 => ((spec_StoppedModules.f k bt353.1 bt353.2.1 bt353.2.2.1 bt353.2.2.2).bind fun bt363 => ((spec_DrawGreatestHop.f k l0).bind fun bt367 => ((impl_GreatestHop.f k bt367.1 bt367.2).bind fun bt371 => ((spec_GreatestHop.f k bt367.1 bt367.2).bind fun bt373 => ((spec_DrawLatestSending.f k l0).bind fun bt375 => ((impl_LatestSending.f k bt375.1 bt375.2.1 bt375.2.2.1 bt375.2.2.2).bind fun bt381 => ((spec_LatestSending.f k bt375.1 bt375.2.1 bt375.2.2.1 bt375.2.2.2).bind fun bt383 => (if bt349.2 = bt351.2 then (if bt349.1 = bt351.1 then (if bt359.2 = bt363.2 then ((laws_likeInts.f k bt359.1 bt363.1).bind fun t385 => (if t385 = true then (if bt371.2 = bt373.2 then (if bt371.1 = bt373.1 then (if bt381.2 = bt383.2 then (laws_FnHops.j0 k bt343.1 bt343.2.1 bt343.2.2.1 bt343.2.2.2 bt349.1 bt349.2 bt353.1 bt353.2.1 bt353.2.2.1 bt353.2.2.2 bt359.1 bt359.2 bt367.1 bt367.2 bt371.1 bt371.2 bt375.1 bt375.2.1 bt375.2.2.1 bt375.2.2.2 bt381.1 bt381.2 (bt381.1 != bt383.1)) else (laws_FnHops.j0 k bt343.1 bt343.2.1 bt343.2.2.1 bt343.2.2.2 bt349.1 bt349.2 bt353.1 bt353.2.1 bt353.2.2.1 bt353.2.2.2 bt359.1 bt359.2 bt367.1 bt367.2 bt371.1 bt371.2 bt375.1 bt375.2.1 bt375.2.2.1 bt375.2.2.2 bt381.1 bt381.2 true)) else (laws_FnHops.j0 k bt343.1 bt343.2.1 bt343.2.2.1 bt343.2.2.2 bt349.1 bt349.2 bt353.1 bt353.2.1 bt353.2.2.1 bt353.2.2.2 bt359.1 bt359.2 bt367.1 bt367.2 bt371.1 bt371.2 bt375.1 bt375.2.1 bt375.2.2.1 bt375.2.2.2 bt381.1 bt381.2 true)) else (laws_FnHops.j0 k bt343.1 bt343.2.1 bt343.2.2.1 bt343.2.2.2 bt349.1 bt349.2 bt353.1 bt353.2.1 bt353.2.2.1 bt353.2.2.2 bt359.1 bt359.2 bt367.1 bt367.2 bt371.1 bt371.2 bt375.1 bt375.2.1 bt375.2.2.1 bt375.2.2.2 bt381.1 bt381.2 true)) else (laws_FnHops.j0 k bt343.1 bt343.2.1 bt343.2.2.1 bt343.2.2.2 bt349.1 bt349.2 bt353.1 bt353.2.1 bt353.2.2.1 bt353.2.2.2 bt359.1 bt359.2 bt367.1 bt367.2 bt371.1 bt371.2 bt375.1 bt375.2.1 bt375.2.2.1 bt375.2.2.2 bt381.1 bt381.2 true))) else (laws_FnHops.j0 k bt343.1 bt343.2.1 bt343.2.2.1 bt343.2.2.2 bt349.1 bt349.2 bt353.1 bt353.2.1 bt353.2.2.1 bt353.2.2.2 bt359.1 bt359.2 bt367.1 bt367.2 bt371.1 bt371.2 bt375.1 bt375.2.1 bt375.2.2.1 bt375.2.2.2 bt381.1 bt381.2 true)) else (laws_FnHops.j0 k bt343.1 bt343.2.1 bt343.2.2.1 bt343.2.2.2 bt349.1 bt349.2 bt353.1 bt353.2.1 bt353.2.2.1 bt353.2.2.2 bt359.1 bt359.2 bt367.1 bt367.2 bt371.1 bt371.2 bt375.1 bt375.2.1 bt375.2.2.1 bt375.2.2.2 bt381.1 bt381.2 true)) else (laws_FnHops.j0 k bt343.1 bt343.2.1 bt343.2.2.1 bt343.2.2.2 bt349.1 bt349.2 bt353.1 bt353.2.1 bt353.2.2.1 bt353.2.2.2 bt359.1 bt359.2 bt367.1 bt367.2 bt371.1 bt371.2 bt375.1 bt375.2.1 bt375.2.2.1 bt375.2.2.2 bt381.1 bt381.2 true)))))))))))))))
theorem laws_FnHops.mono_l : ∀ k, (∀ y0 y1 y2 y3 y4 y5 y6 y7 y8 y9 y10 y11 y12 y13 y14 y15 y16 y17 y18 y19 y20 y21 y22, LeO (laws_FnHops.j0 k y0 y1 y2 y3 y4 y5 y6 y7 y8 y9 y10 y11 y12 y13 y14 y15 y16 y17 y18 y19 y20 y21 y22) (laws_FnHops.j0 (k + 1) y0 y1 y2 y3 y4 y5 y6 y7 y8 y9 y10 y11 y12 y13 y14 y15 y16 y17 y18 y19 y20 y21 y22)) ∧ (∀ y0 y1 y2 y3 y4 y5 y6 y7 y8 y9 y10 y11 y12 y13 y14 y15 y16 y17 y18 y19 y20 y21 y22, LeO (laws_FnHops.l0 k y0 y1 y2 y3 y4 y5 y6 y7 y8 y9 y10 y11 y12 y13 y14 y15 y16 y17 y18 y19 y20 y21 y22) (laws_FnHops.l0 (k + 1) y0 y1 y2 y3 y4 y5 y6 y7 y8 y9 y10 y11 y12 y13 y14 y15 y16 y17 y18 y19 y20 y21 y22)) ∧ (∀ y0 y1 y2 y3 y4 y5 y6 y7 y8 y9 y10 y11 y12 y13 y14 y15 y16 y17 y18 y19 y20 y21 y22 y23, LeO (laws_FnHops.j2 k y0 y1 y2 y3 y4 y5 y6 y7 y8 y9 y10 y11 y12 y13 y14 y15 y16 y17 y18 y19 y20 y21 y22 y23) (laws_FnHops.j2 (k + 1) y0 y1 y2 y3 y4 y5 y6 y7 y8 y9 y10 y11 y12 y13 y14 y15 y16 y17 y18 y19 y20 y21 y22 y23)) ∧ (∀ y0 y1 y2 y3 y4 y5 y6 y7 y8 y9 y10 y11, LeO (laws_FnHops.j4 k y0 y1 y2 y3 y4 y5 y6 y7 y8 y9 y10 y11) (laws_FnHops.j4 (k + 1) y0 y1 y2 y3 y4 y5 y6 y7 y8 y9 y10 y11)) ∧ (∀ y0 y1 y2 y3 y4 y5 y6, LeO (laws_FnHops.j5 k y0 y1 y2 y3 y4 y5 y6) (laws_FnHops.j5 (k + 1) y0 y1 y2 y3 y4 y5 y6)) ∧ (∀ y0 y1 y2 y3 y4 y5 y6 y7 y8 y9 y10 y11 y12 y13 y14 y15, LeO (laws_FnHops.j3 k y0 y1 y2 y3 y4 y5 y6 y7 y8 y9 y10 y11 y12 y13 y14 y15) (laws_FnHops.j3 (k + 1) y0 y1 y2 y3 y4 y5 y6 y7 y8 y9 y10 y11 y12 y13 y14 y15))
  | 0 => ⟨fun _ _ _ _ _ _ _ _ _ _ _ _ _ _ _ _ _ _ _ _ _ _ _ r h => by simp [laws_FnHops.j0] at h, fun _ _ _ _ _ _ _ _ _ _ _ _ _ _ _ _ _ _ _ _ _ _ _ r h => by simp [laws_FnHops.l0] at h, fun _ _ _ _ _ _ _ _ _ _ _ _ _ _ _ _ _ _ _ _ _ _ _ _ r h => by simp [laws_FnHops.j2] at h, fun _ _ _ _ _ _ _ _ _ _ _ _ r h => by simp [laws_FnHops.j4] at h, fun _ _ _ _ _ _ _ r h => by simp [laws_FnHops.j5] at h, fun _ _ _ _ _ _ _ _ _ _ _ _ _ _ _ _ r h => by simp [laws_FnHops.j3] at h⟩
  | k + 1 => by
    obtain ⟨ih0, ih1, ih2, ih3, ih4, ih5⟩ := laws_FnHops.mono_l k
    refine ⟨?_, ?_, ?_, ?_, ?_, ?_⟩
    · intro y0 y1 y2 y3 y4 y5 y6 y7 y8 y9 y10 y11 y12 y13 y14 y15 y16 y17 y18 y19 y20 y21 y22
      unfold laws_FnHops.j0
      repeat' first
      | (with_reducible exact ih0 _ _ _ _ _ _ _ _ _ _ _ _ _ _ _ _ _ _ _ _ _ _ _)
      | (with_reducible exact ih1 _ _ _ _ _ _ _ _ _ _ _ _ _ _ _ _ _ _ _ _ _ _ _)
      | (with_reducible exact ih2 _ _ _ _ _ _ _ _ _ _ _ _ _ _ _ _ _ _ _ _ _ _ _ _)
      | (with_reducible exact ih3 _ _ _ _ _ _ _ _ _ _ _ _)
      | (with_reducible exact ih4 _ _ _ _ _ _ _)
      | (with_reducible exact ih5 _ _ _ _ _ _ _ _ _ _ _ _ _ _ _ _)
      | (with_reducible exact impl_DepthOf.mono _ _ _)
      | (with_reducible exact impl_GreatestHop.mono _ _ _)
      | (with_reducible exact impl_LastStop.mono _ _ _ _)
      | (with_reducible exact impl_LatestSending.mono _ _ _ _ _)
      | (with_reducible exact impl_StopTick.mono _ _ _ _ _)
      | (with_reducible exact impl_StoppedModules.mono _ _ _ _ _)
      | (with_reducible exact laws_hasInt.mono _ _ _)
      | (with_reducible exact laws_likeInts.mono _ _ _)
      | (with_reducible exact spec_DrawGreatestHop.mono _ _)
      | (with_reducible exact spec_DrawLatestSending.mono _ _)
      | (with_reducible exact spec_DrawStopTick.mono _ _)
      | (with_reducible exact spec_DrawStoppedModules.mono _ _)
      | (with_reducible exact spec_GreatestHop.mono _ _ _)
      | (with_reducible exact spec_LatestSending.mono _ _ _ _ _)
      | (with_reducible exact spec_StopTick.mono _ _ _ _ _)
      | (with_reducible exact spec_StoppedModules.mono _ _ _ _ _)
      | (with_reducible exact LeO.refl _)
      | (with_reducible exact LeO.none _)
      | (with_reducible refine LeO.ite ?_ ?_)
      | (with_reducible refine LeO.bind ?_ (fun _ => ?_))
      | exact ih0 _ _ _ _ _ _ _ _ _ _ _ _ _ _ _ _ _ _ _ _ _ _ _
      | exact ih1 _ _ _ _ _ _ _ _ _ _ _ _ _ _ _ _ _ _ _ _ _ _ _
      | exact ih2 _ _ _ _ _ _ _ _ _ _ _ _ _ _ _ _ _ _ _ _ _ _ _ _
      | exact ih3 _ _ _ _ _ _ _ _ _ _ _ _
      | exact ih4 _ _ _ _ _ _ _
      | exact ih5 _ _ _ _ _ _ _ _ _ _ _ _ _ _ _ _
      | exact impl_DepthOf.mono _ _ _
      | exact impl_GreatestHop.mono _ _ _
      | exact impl_LastStop.mono _ _ _ _
      | exact impl_LatestSending.mono _ _ _ _ _
      | exact impl_StopTick.mono _ _ _ _ _
      | exact impl_StoppedModules.mono _ _ _ _ _
      | exact laws_hasInt.mono _ _ _
      | exact laws_likeInts.mono _ _ _
      | exact spec_DrawGreatestHop.mono _ _
      | exact spec_DrawLatestSending.mono _ _
      | exact spec_DrawStopTick.mono _ _
      | exact spec_DrawStoppedModules.mono _ _
      | exact spec_GreatestHop.mono _ _ _
      | exact spec_LatestSending.mono _ _ _ _ _
      | exact spec_StopTick.mono _ _ _ _ _
      | exact spec_StoppedModules.mono _ _ _ _ _
      | exact LeO.none _
      | refine LeO.ite ?_ ?_
      | refine LeO.bind ?_ (fun _ => ?_)
    · intro y0 y1 y2 y3 y4 y5 y6 y7 y8 y9 y10 y11 y12 y13 y14 y15 y16 y17 y18 y19 y20 y21 y22
      unfold laws_FnHops.l0
      repeat' first
      | (with_reducible exact ih0 _ _ _ _ _ _ _ _ _ _ _ _ _ _ _ _ _ _ _ _ _ _ _)
      | (with_reducible exact ih1 _ _ _ _ _ _ _ _ _ _ _ _ _ _ _ _ _ _ _ _ _ _ _)
      | (with_reducible exact ih2 _ _ _ _ _ _ _ _ _ _ _ _ _ _ _ _ _ _ _ _ _ _ _ _)
      | (with_reducible exact ih3 _ _ _ _ _ _ _ _ _ _ _ _)
      | (with_reducible exact ih4 _ _ _ _ _ _ _)
      | (with_reducible exact ih5 _ _ _ _ _ _ _ _ _ _ _ _ _ _ _ _)
      | (with_reducible exact impl_DepthOf.mono _ _ _)
      | (with_reducible exact impl_GreatestHop.mono _ _ _)
      | (with_reducible exact impl_LastStop.mono _ _ _ _)
      | (with_reducible exact impl_LatestSending.mono _ _ _ _ _)
      | (with_reducible exact impl_StopTick.mono _ _ _ _ _)
      | (with_reducible exact impl_StoppedModules.mono _ _ _ _ _)
      | (with_reducible exact laws_hasInt.mono _ _ _)
      | (with_reducible exact laws_likeInts.mono _ _ _)
      | (with_reducible exact spec_DrawGreatestHop.mono _ _)
      | (with_reducible exact spec_DrawLatestSending.mono _ _)
      | (with_reducible exact spec_DrawStopTick.mono _ _)
      | (with_reducible exact spec_DrawStoppedModules.mono _ _)
      | (with_reducible exact spec_GreatestHop.mono _ _ _)
      | (with_reducible exact spec_LatestSending.mono _ _ _ _ _)
      | (with_reducible exact spec_StopTick.mono _ _ _ _ _)
      | (with_reducible exact spec_StoppedModules.mono _ _ _ _ _)
      | (with_reducible exact LeO.refl _)
      | (with_reducible exact LeO.none _)
      | (with_reducible refine LeO.ite ?_ ?_)
      | (with_reducible refine LeO.bind ?_ (fun _ => ?_))
      | exact ih0 _ _ _ _ _ _ _ _ _ _ _ _ _ _ _ _ _ _ _ _ _ _ _
      | exact ih1 _ _ _ _ _ _ _ _ _ _ _ _ _ _ _ _ _ _ _ _ _ _ _
      | exact ih2 _ _ _ _ _ _ _ _ _ _ _ _ _ _ _ _ _ _ _ _ _ _ _ _
      | exact ih3 _ _ _ _ _ _ _ _ _ _ _ _
      | exact ih4 _ _ _ _ _ _ _
      | exact ih5 _ _ _ _ _ _ _ _ _ _ _ _ _ _ _ _
      | exact impl_DepthOf.mono _ _ _
      | exact impl_GreatestHop.mono _ _ _
      | exact impl_LastStop.mono _ _ _ _
      | exact impl_LatestSending.mono _ _ _ _ _
      | exact impl_StopTick.mono _ _ _ _ _
      | exact impl_StoppedModules.mono _ _ _ _ _
      | exact laws_hasInt.mono _ _ _
      | exact laws_likeInts.mono _ _ _
      | exact spec_DrawGreatestHop.mono _ _
      | exact spec_DrawLatestSending.mono _ _
      | exact spec_DrawStopTick.mono _ _
      | exact spec_DrawStoppedModules.mono _ _
      | exact spec_GreatestHop.mono _ _ _
      | exact spec_LatestSending.mono _ _ _ _ _
      | exact spec_StopTick.mono _ _ _ _ _
      | exact spec_StoppedModules.mono _ _ _ _ _
      | exact LeO.none _
      | refine LeO.ite ?_ ?_
      | refine LeO.bind ?_ (fun _ => ?_)
    · intro y0 y1 y2 y3 y4 y5 y6 y7 y8 y9 y10 y11 y12 y13 y14 y15 y16 y17 y18 y19 y20 y21 y22 y23
      unfold laws_FnHops.j2
      repeat' first
      | (with_reducible exact ih0 _ _ _ _ _ _ _ _ _ _ _ _ _ _ _ _ _ _ _ _ _ _ _)
      | (with_reducible exact ih1 _ _ _ _ _ _ _ _ _ _ _ _ _ _ _ _ _ _ _ _ _ _ _)
      | (with_reducible exact ih2 _ _ _ _ _ _ _ _ _ _ _ _ _ _ _ _ _ _ _ _ _ _ _ _)
      | (with_reducible exact ih3 _ _ _ _ _ _ _ _ _ _ _ _)
      | (with_reducible exact ih4 _ _ _ _ _ _ _)
      | (with_reducible exact ih5 _ _ _ _ _ _ _ _ _ _ _ _ _ _ _ _)
      | (with_reducible exact impl_DepthOf.mono _ _ _)
      | (with_reducible exact impl_GreatestHop.mono _ _ _)
      | (with_reducible exact impl_LastStop.mono _ _ _ _)
      | (with_reducible exact impl_LatestSending.mono _ _ _ _ _)
      | (with_reducible exact impl_StopTick.mono _ _ _ _ _)
      | (with_reducible exact impl_StoppedModules.mono _ _ _ _ _)
      | (with_reducible exact laws_hasInt.mono _ _ _)
      | (with_reducible exact laws_likeInts.mono _ _ _)
      | (with_reducible exact spec_DrawGreatestHop.mono _ _)
      | (with_reducible exact spec_DrawLatestSending.mono _ _)
      | (with_reducible exact spec_DrawStopTick.mono _ _)
      | (with_reducible exact spec_DrawStoppedModules.mono _ _)
      | (with_reducible exact spec_GreatestHop.mono _ _ _)
      | (with_reducible exact spec_LatestSending.mono _ _ _ _ _)
      | (with_reducible exact spec_StopTick.mono _ _ _ _ _)
      | (with_reducible exact spec_StoppedModules.mono _ _ _ _ _)
      | (with_reducible exact LeO.refl _)
      | (with_reducible exact LeO.none _)
      | (with_reducible refine LeO.ite ?_ ?_)
      | (with_reducible refine LeO.bind ?_ (fun _ => ?_))
      | exact ih0 _ _ _ _ _ _ _ _ _ _ _ _ _ _ _ _ _ _ _ _ _ _ _
      | exact ih1 _ _ _ _ _ _ _ _ _ _ _ _ _ _ _ _ _ _ _ _ _ _ _
      | exact ih2 _ _ _ _ _ _ _ _ _ _ _ _ _ _ _ _ _ _ _ _ _ _ _ _
      | exact ih3 _ _ _ _ _ _ _ _ _ _ _ _
      | exact ih4 _ _ _ _ _ _ _
      | exact ih5 _ _ _ _ _ _ _ _ _ _ _ _ _ _ _ _
      | exact impl_DepthOf.mono _ _ _
      | exact impl_GreatestHop.mono _ _ _
      | exact impl_LastStop.mono _ _ _ _
      | exact impl_LatestSending.mono _ _ _ _ _
      | exact impl_StopTick.mono _ _ _ _ _
      | exact impl_StoppedModules.mono _ _ _ _ _
      | exact laws_hasInt.mono _ _ _
      | exact laws_likeInts.mono _ _ _
      | exact spec_DrawGreatestHop.mono _ _
      | exact spec_DrawLatestSending.mono _ _
      | exact spec_DrawStopTick.mono _ _
      | exact spec_DrawStoppedModules.mono _ _
      | exact spec_GreatestHop.mono _ _ _
      | exact spec_LatestSending.mono _ _ _ _ _
      | exact spec_StopTick.mono _ _ _ _ _
      | exact spec_StoppedModules.mono _ _ _ _ _
      | exact LeO.none _
      | refine LeO.ite ?_ ?_
      | refine LeO.bind ?_ (fun _ => ?_)
    · intro y0 y1 y2 y3 y4 y5 y6 y7 y8 y9 y10 y11
      unfold laws_FnHops.j4
      repeat' first
      | (with_reducible exact ih0 _ _ _ _ _ _ _ _ _ _ _ _ _ _ _ _ _ _ _ _ _ _ _)
      | (with_reducible exact ih1 _ _ _ _ _ _ _ _ _ _ _ _ _ _ _ _ _ _ _ _ _ _ _)
      | (with_reducible exact ih2 _ _ _ _ _ _ _ _ _ _ _ _ _ _ _ _ _ _ _ _ _ _ _ _)
      | (with_reducible exact ih3 _ _ _ _ _ _ _ _ _ _ _ _)
      | (with_reducible exact ih4 _ _ _ _ _ _ _)
      | (with_reducible exact ih5 _ _ _ _ _ _ _ _ _ _ _ _ _ _ _ _)
      | (with_reducible exact impl_DepthOf.mono _ _ _)
      | (with_reducible exact impl_GreatestHop.mono _ _ _)
      | (with_reducible exact impl_LastStop.mono _ _ _ _)
      | (with_reducible exact impl_LatestSending.mono _ _ _ _ _)
      | (with_reducible exact impl_StopTick.mono _ _ _ _ _)
      | (with_reducible exact impl_StoppedModules.mono _ _ _ _ _)
      | (with_reducible exact laws_hasInt.mono _ _ _)
      | (with_reducible exact laws_likeInts.mono _ _ _)
      | (with_reducible exact spec_DrawGreatestHop.mono _ _)
      | (with_reducible exact spec_DrawLatestSending.mono _ _)
      | (with_reducible exact spec_DrawStopTick.mono _ _)
      | (with_reducible exact spec_DrawStoppedModules.mono _ _)
      | (with_reducible exact spec_GreatestHop.mono _ _ _)
      | (with_reducible exact spec_LatestSending.mono _ _ _ _ _)
      | (with_reducible exact spec_StopTick.mono _ _ _ _ _)
      | (with_reducible exact spec_StoppedModules.mono _ _ _ _ _)
      | (with_reducible exact LeO.refl _)
      | (with_reducible exact LeO.none _)
      | (with_reducible refine LeO.ite ?_ ?_)
      | (with_reducible refine LeO.bind ?_ (fun _ => ?_))
      | exact ih0 _ _ _ _ _ _ _ _ _ _ _ _ _ _ _ _ _ _ _ _ _ _ _
      | exact ih1 _ _ _ _ _ _ _ _ _ _ _ _ _ _ _ _ _ _ _ _ _ _ _
      | exact ih2 _ _ _ _ _ _ _ _ _ _ _ _ _ _ _ _ _ _ _ _ _ _ _ _
      | exact ih3 _ _ _ _ _ _ _ _ _ _ _ _
      | exact ih4 _ _ _ _ _ _ _
      | exact ih5 _ _ _ _ _ _ _ _ _ _ _ _ _ _ _ _
      | exact impl_DepthOf.mono _ _ _
      | exact impl_GreatestHop.mono _ _ _
      | exact impl_LastStop.mono _ _ _ _
      | exact impl_LatestSending.mono _ _ _ _ _
      | exact impl_StopTick.mono _ _ _ _ _
      | exact impl_StoppedModules.mono _ _ _ _ _
      | exact laws_hasInt.mono _ _ _
      | exact laws_likeInts.mono _ _ _
      | exact spec_DrawGreatestHop.mono _ _
      | exact spec_DrawLatestSending.mono _ _
      | exact spec_DrawStopTick.mono _ _
      | exact spec_DrawStoppedModules.mono _ _
      | exact spec_GreatestHop.mono _ _ _
      | exact spec_LatestSending.mono _ _ _ _ _
      | exact spec_StopTick.mono _ _ _ _ _
      | exact spec_StoppedModules.mono _ _ _ _ _
      | exact LeO.none _
      | refine LeO.ite ?_ ?_
      | refine LeO.bind ?_ (fun _ => ?_)
    · intro y0 y1 y2 y3 y4 y5 y6
      unfold laws_FnHops.j5
      repeat' first
      | (with_reducible exact ih0 _ _ _ _ _ _ _ _ _ _ _ _ _ _ _ _ _ _ _ _ _ _ _)
      | (with_reducible exact ih1 _ _ _ _ _ _ _ _ _ _ _ _ _ _ _ _ _ _ _ _ _ _ _)
      | (with_reducible exact ih2 _ _ _ _ _ _ _ _ _ _ _ _ _ _ _ _ _ _ _ _ _ _ _ _)
      | (with_reducible exact ih3 _ _ _ _ _ _ _ _ _ _ _ _)
      | (with_reducible exact ih4 _ _ _ _ _ _ _)
      | (with_reducible exact ih5 _ _ _ _ _ _ _ _ _ _ _ _ _ _ _ _)
      | (with_reducible exact impl_DepthOf.mono _ _ _)
      | (with_reducible exact impl_GreatestHop.mono _ _ _)
      | (with_reducible exact impl_LastStop.mono _ _ _ _)
      | (with_reducible exact impl_LatestSending.mono _ _ _ _ _)
      | (with_reducible exact impl_StopTick.mono _ _ _ _ _)
      | (with_reducible exact impl_StoppedModules.mono _ _ _ _ _)
      | (with_reducible exact laws_hasInt.mono _ _ _)
      | (with_reducible exact laws_likeInts.mono _ _ _)
      | (with_reducible exact spec_DrawGreatestHop.mono _ _)
      | (with_reducible exact spec_DrawLatestSending.mono _ _)
      | (with_reducible exact spec_DrawStopTick.mono _ _)
      | (with_reducible exact spec_DrawStoppedModules.mono _ _)
      | (with_reducible exact spec_GreatestHop.mono _ _ _)
      | (with_reducible exact spec_LatestSending.mono _ _ _ _ _)
      | (with_reducible exact spec_StopTick.mono _ _ _ _ _)
      | (with_reducible exact spec_StoppedModules.mono _ _ _ _ _)
      | (with_reducible exact LeO.refl _)
      | (with_reducible exact LeO.none _)
      | (with_reducible refine LeO.ite ?_ ?_)
      | (with_reducible refine LeO.bind ?_ (fun _ => ?_))
      | exact ih0 _ _ _ _ _ _ _ _ _ _ _ _ _ _ _ _ _ _ _ _ _ _ _
      | exact ih1 _ _ _ _ _ _ _ _ _ _ _ _ _ _ _ _ _ _ _ _ _ _ _
      | exact ih2 _ _ _ _ _ _ _ _ _ _ _ _ _ _ _ _ _ _ _ _ _ _ _ _
      | exact ih3 _ _ _ _ _ _ _ _ _ _ _ _
      | exact ih4 _ _ _ _ _ _ _
      | exact ih5 _ _ _ _ _ _ _ _ _ _ _ _ _ _ _ _
      | exact impl_DepthOf.mono _ _ _
      | exact impl_GreatestHop.mono _ _ _
      | exact impl_LastStop.mono _ _ _ _
      | exact impl_LatestSending.mono _ _ _ _ _
      | exact impl_StopTick.mono _ _ _ _ _
      | exact impl_StoppedModules.mono _ _ _ _ _
      | exact laws_hasInt.mono _ _ _
      | exact laws_likeInts.mono _ _ _
      | exact spec_DrawGreatestHop.mono _ _
      | exact spec_DrawLatestSending.mono _ _
      | exact spec_DrawStopTick.mono _ _
      | exact spec_DrawStoppedModules.mono _ _
      | exact spec_GreatestHop.mono _ _ _
      | exact spec_LatestSending.mono _ _ _ _ _
      | exact spec_StopTick.mono _ _ _ _ _
      | exact spec_StoppedModules.mono _ _ _ _ _
      | exact LeO.none _
      | refine LeO.ite ?_ ?_
      | refine LeO.bind ?_ (fun _ => ?_)
    · intro y0 y1 y2 y3 y4 y5 y6 y7 y8 y9 y10 y11 y12 y13 y14 y15
      unfold laws_FnHops.j3
      repeat' first
      | (with_reducible exact ih0 _ _ _ _ _ _ _ _ _ _ _ _ _ _ _ _ _ _ _ _ _ _ _)
      | (with_reducible exact ih1 _ _ _ _ _ _ _ _ _ _ _ _ _ _ _ _ _ _ _ _ _ _ _)
      | (with_reducible exact ih2 _ _ _ _ _ _ _ _ _ _ _ _ _ _ _ _ _ _ _ _ _ _ _ _)
      | (with_reducible exact ih3 _ _ _ _ _ _ _ _ _ _ _ _)
      | (with_reducible exact ih4 _ _ _ _ _ _ _)
      | (with_reducible exact ih5 _ _ _ _ _ _ _ _ _ _ _ _ _ _ _ _)
      | (with_reducible exact impl_DepthOf.mono _ _ _)
      | (with_reducible exact impl_GreatestHop.mono _ _ _)
      | (with_reducible exact impl_LastStop.mono _ _ _ _)
      | (with_reducible exact impl_LatestSending.mono _ _ _ _ _)
      | (with_reducible exact impl_StopTick.mono _ _ _ _ _)
      | (with_reducible exact impl_StoppedModules.mono _ _ _ _ _)
      | (with_reducible exact laws_hasInt.mono _ _ _)
      | (with_reducible exact laws_likeInts.mono _ _ _)
      | (with_reducible exact spec_DrawGreatestHop.mono _ _)
      | (with_reducible exact spec_DrawLatestSending.mono _ _)
      | (with_reducible exact spec_DrawStopTick.mono _ _)
      | (with_reducible exact spec_DrawStoppedModules.mono _ _)
      | (with_reducible exact spec_GreatestHop.mono _ _ _)
      | (with_reducible exact spec_LatestSending.mono _ _ _ _ _)
      | (with_reducible exact spec_StopTick.mono _ _ _ _ _)
      | (with_reducible exact spec_StoppedModules.mono _ _ _ _ _)
      | (with_reducible exact LeO.refl _)
      | (with_reducible exact LeO.none _)
      | (with_reducible refine LeO.ite ?_ ?_)
      | (with_reducible refine LeO.bind ?_ (fun _ => ?_))
      | exact ih0 _ _ _ _ _ _ _ _ _ _ _ _ _ _ _ _ _ _ _ _ _ _ _
      | exact ih1 _ _ _ _ _ _ _ _ _ _ _ _ _ _ _ _ _ _ _ _ _ _ _
      | exact ih2 _ _ _ _ _ _ _ _ _ _ _ _ _ _ _ _ _ _ _ _ _ _ _ _
      | exact ih3 _ _ _ _ _ _ _ _ _ _ _ _
      | exact ih4 _ _ _ _ _ _ _
      | exact ih5 _ _ _ _ _ _ _ _ _ _ _ _ _ _ _ _
      | exact impl_DepthOf.mono _ _ _
      | exact impl_GreatestHop.mono _ _ _
      | exact impl_LastStop.mono _ _ _ _
      | exact impl_LatestSending.mono _ _ _ _ _
      | exact impl_StopTick.mono _ _ _ _ _
      | exact impl_StoppedModules.mono _ _ _ _ _
      | exact laws_hasInt.mono _ _ _
      | exact laws_likeInts.mono _ _ _
      | exact spec_DrawGreatestHop.mono _ _
      | exact spec_DrawLatestSending.mono _ _
      | exact spec_DrawStopTick.mono _ _
      | exact spec_DrawStoppedModules.mono _ _
      | exact spec_GreatestHop.mono _ _ _
      | exact spec_LatestSending.mono _ _ _ _ _
      | exact spec_StopTick.mono _ _ _ _ _
      | exact spec_StoppedModules.mono _ _ _ _ _
      | exact LeO.none _
      | refine LeO.ite ?_ ?_
      | refine LeO.bind ?_ (fun _ => ?_)
theorem laws_FnHops.mono : ∀ a0 k, LeO (laws_FnHops.f k a0) (laws_FnHops.f (k + 1) a0) := by
  intro a0 k
  obtain ⟨ih0, ih1, ih2, ih3, ih4, ih5⟩ := laws_FnHops.mono_l k
  unfold laws_FnHops.f
  repeat' first
      | (with_reducible exact ih0 _ _ _ _ _ _ _ _ _ _ _ _ _ _ _ _ _ _ _ _ _ _ _)
      | (with_reducible exact ih1 _ _ _ _ _ _ _ _ _ _ _ _ _ _ _ _ _ _ _ _ _ _ _)
      | (with_reducible exact ih2 _ _ _ _ _ _ _ _ _ _ _ _ _ _ _ _ _ _ _ _ _ _ _ _)
      | (with_reducible exact ih3 _ _ _ _ _ _ _ _ _ _ _ _)
      | (with_reducible exact ih4 _ _ _ _ _ _ _)
      | (with_reducible exact ih5 _ _ _ _ _ _ _ _ _ _ _ _ _ _ _ _)
      | (with_reducible exact impl_DepthOf.mono _ _ _)
      | (with_reducible exact impl_GreatestHop.mono _ _ _)
      | (with_reducible exact impl_LastStop.mono _ _ _ _)
      | (with_reducible exact impl_LatestSending.mono _ _ _ _ _)
      | (with_reducible exact impl_StopTick.mono _ _ _ _ _)
      | (with_reducible exact impl_StoppedModules.mono _ _ _ _ _)
      | (with_reducible exact laws_hasInt.mono _ _ _)
      | (with_reducible exact laws_likeInts.mono _ _ _)
      | (with_reducible exact spec_DrawGreatestHop.mono _ _)
      | (with_reducible exact spec_DrawLatestSending.mono _ _)
      | (with_reducible exact spec_DrawStopTick.mono _ _)
      | (with_reducible exact spec_DrawStoppedModules.mono _ _)
      | (with_reducible exact spec_GreatestHop.mono _ _ _)
      | (with_reducible exact spec_LatestSending.mono _ _ _ _ _)
      | (with_reducible exact spec_StopTick.mono _ _ _ _ _)
      | (with_reducible exact spec_StoppedModules.mono _ _ _ _ _)
      | (with_reducible exact LeO.refl _)
      | (with_reducible exact LeO.none _)
      | (with_reducible refine LeO.ite ?_ ?_)
      | (with_reducible refine LeO.bind ?_ (fun _ => ?_))
      | exact ih0 _ _ _ _ _ _ _ _ _ _ _ _ _ _ _ _ _ _ _ _ _ _ _
      | exact ih1 _ _ _ _ _ _ _ _ _ _ _ _ _ _ _ _ _ _ _ _ _ _ _
      | exact ih2 _ _ _ _ _ _ _ _ _ _ _ _ _ _ _ _ _ _ _ _ _ _ _ _
      | exact ih3 _ _ _ _ _ _ _ _ _ _ _ _
      | exact ih4 _ _ _ _ _ _ _
      | exact ih5 _ _ _ _ _ _ _ _ _ _ _ _ _ _ _ _
      | exact impl_DepthOf.mono _ _ _
      | exact impl_GreatestHop.mono _ _ _
      | exact impl_LastStop.mono _ _ _ _
      | exact impl_LatestSending.mono _ _ _ _ _
      | exact impl_StopTick.mono _ _ _ _ _
      | exact impl_StoppedModules.mono _ _ _ _ _
      | exact laws_hasInt.mono _ _ _
      | exact laws_likeInts.mono _ _ _
      | exact spec_DrawGreatestHop.mono _ _
      | exact spec_DrawLatestSending.mono _ _
      | exact spec_DrawStopTick.mono _ _
      | exact spec_DrawStoppedModules.mono _ _
      | exact spec_GreatestHop.mono _ _ _
      | exact spec_LatestSending.mono _ _ _ _ _
      | exact spec_StopTick.mono _ _ _ _ _
      | exact spec_StoppedModules.mono _ _ _ _ _
      | exact LeO.none _
      | refine LeO.ite ?_ ?_
      | refine LeO.bind ?_ (fun _ => ?_)
set_option maxHeartbeats 8000000 in
set_option maxRecDepth 100000 in
theorem laws_FnHops.calls (k : Nat) (A0 : Option Addr) (c0 : Nat) (l0 : List Int) (r : Bool) (w : World) (hr0 : Kd.C (Kd.int .u8) w A0 l0.length l0) (hc0 : l0.length ≤ c0) (h : laws_FnHops.f k l0 = some r) :
    Calls Try.prog 6 #[.slice A0 l0.length c0] w fun e w' => e = .returned (.bool r) ∧ Below w.heap.size w w' := by
  have HR0 := Aside0.mk hr0
  have HC0 := Aside0.mk hc0
  clear hr0 hc0
  have HB := Aside0.mk (Below.refl w.heap.size w)
  have H : ((laws_big.f l0).bind fun t342 => (if t342 = true then (some true) else ((spec_DrawStopTick.f k l0).bind fun bt343 => ((impl_StopTick.f k bt343.1 bt343.2.1 bt343.2.2.1 bt343.2.2.2).bind fun bt349 => ((spec_StopTick.f k bt343.1 bt343.2.1 bt343.2.2.1 bt343.2.2.2).bind fun bt351 => ((spec_DrawStoppedModules.f k l0).bind fun bt353 => ((impl_StoppedModules.f k bt353.1 bt353.2.1 bt353.2.2.1 bt353.2.2.2).bind fun bt359 => ((spec_StoppedModules.f k bt353.1 bt353.2.1 bt353.2.2.1 bt353.2.2.2).bind fun bt363 => ((spec_DrawGreatestHop.f k l0).bind fun bt367 => ((impl_GreatestHop.f k bt367.1 bt367.2).bind fun bt371 => ((spec_GreatestHop.f k bt367.1 bt367.2).bind fun bt373 => ((spec_DrawLatestSending.f k l0).bind fun bt375 => ((impl_LatestSending.f k bt375.1 bt375.2.1 bt375.2.2.1 bt375.2.2.2).bind fun bt381 => ((spec_LatestSending.f k bt375.1 bt375.2.1 bt375.2.2.1 bt375.2.2.2).bind fun bt383 => (if bt349.2 = bt351.2 then (if bt349.1 = bt351.1 then (if bt359.2 = bt363.2 then ((laws_likeInts.f k bt359.1 bt363.1).bind fun t385 => (if t385 = true then (if bt371.2 = bt373.2 then (if bt371.1 = bt373.1 then (if bt381.2 = bt383.2 then (laws_FnHops.j0 k bt343.1 bt343.2.1 bt343.2.2.1 bt343.2.2.2 bt349.1 bt349.2 bt353.1 bt353.2.1 bt353.2.2.1 bt353.2.2.2 bt359.1 bt359.2 bt367.1 bt367.2 bt371.1 bt371.2 bt375.1 bt375.2.1 bt375.2.2.1 bt375.2.2.2 bt381.1 bt381.2 (bt381.1 != bt383.1)) else (laws_FnHops.j0 k bt343.1 bt343.2.1 bt343.2.2.1 bt343.2.2.2 bt349.1 bt349.2 bt353.1 bt353.2.1 bt353.2.2.1 bt353.2.2.2 bt359.1 bt359.2 bt367.1 bt367.2 bt371.1 bt371.2 bt375.1 bt375.2.1 bt375.2.2.1 bt375.2.2.2 bt381.1 bt381.2 true)) else (laws_FnHops.j0 k bt343.1 bt343.2.1 bt343.2.2.1 bt343.2.2.2 bt349.1 bt349.2 bt353.1 bt353.2.1 bt353.2.2.1 bt353.2.2.2 bt359.1 bt359.2 bt367.1 bt367.2 bt371.1 bt371.2 bt375.1 bt375.2.1 bt375.2.2.1 bt375.2.2.2 bt381.1 bt381.2 true)) else (laws_FnHops.j0 k bt343.1 bt343.2.1 bt343.2.2.1 bt343.2.2.2 bt349.1 bt349.2 bt353.1 bt353.2.1 bt353.2.2.1 bt353.2.2.2 bt359.1 bt359.2 bt367.1 bt367.2 bt371.1 bt371.2 bt375.1 bt375.2.1 bt375.2.2.1 bt375.2.2.2 bt381.1 bt381.2 true)) else (laws_FnHops.j0 k bt343.1 bt343.2.1 bt343.2.2.1 bt343.2.2.2 bt349.1 bt349.2 bt353.1 bt353.2.1 bt353.2.2.1 bt353.2.2.2 bt359.1 bt359.2 bt367.1 bt367.2 bt371.1 bt371.2 bt375.1 bt375.2.1 bt375.2.2.1 bt375.2.2.2 bt381.1 bt381.2 true))) else (laws_FnHops.j0 k bt343.1 bt343.2.1 bt343.2.2.1 bt343.2.2.2 bt349.1 bt349.2 bt353.1 bt353.2.1 bt353.2.2.1 bt353.2.2.2 bt359.1 bt359.2 bt367.1 bt367.2 bt371.1 bt371.2 bt375.1 bt375.2.1 bt375.2.2.1 bt375.2.2.2 bt381.1 bt381.2 true)) else (laws_FnHops.j0 k bt343.1 bt343.2.1 bt343.2.2.1 bt343.2.2.2 bt349.1 bt349.2 bt353.1 bt353.2.1 bt353.2.2.1 bt353.2.2.2 bt359.1 bt359.2 bt367.1 bt367.2 bt371.1 bt371.2 bt375.1 bt375.2.1 bt375.2.2.1 bt375.2.2.2 bt381.1 bt381.2 true)) else (laws_FnHops.j0 k bt343.1 bt343.2.1 bt343.2.2.1 bt343.2.2.2 bt349.1 bt349.2 bt353.1 bt353.2.1 bt353.2.2.1 bt353.2.2.2 bt359.1 bt359.2 bt367.1 bt367.2 bt371.1 bt371.2 bt375.1 bt375.2.1 bt375.2.2.1 bt375.2.2.2 bt381.1 bt381.2 true)))))))))))))))) = some r := h
  clear h
  replace H := Option.bind_eq_some_iff.mp H
  obtain ⟨t342, A20, H⟩ := H
  replace H : (if t342 = true then (some true) else ((spec_DrawStopTick.f k l0).bind fun bt343 => ((impl_StopTick.f k bt343.1 bt343.2.1 bt343.2.2.1 bt343.2.2.2).bind fun bt349 => ((spec_StopTick.f k bt343.1 bt343.2.1 bt343.2.2.1 bt343.2.2.2).bind fun bt351 => ((spec_DrawStoppedModules.f k l0).bind fun bt353 => ((impl_StoppedModules.f k bt353.1 bt353.2.1 bt353.2.2.1 bt353.2.2.2).bind fun bt359 => ((spec_StoppedModules.f k bt353.1 bt353.2.1 bt353.2.2.1 bt353.2.2.2).bind fun bt363 => ((spec_DrawGreatestHop.f k l0).bind fun bt367 => ((impl_GreatestHop.f k bt367.1 bt367.2).bind fun bt371 => ((spec_GreatestHop.f k bt367.1 bt367.2).bind fun bt373 => ((spec_DrawLatestSending.f k l0).bind fun bt375 => ((impl_LatestSending.f k bt375.1 bt375.2.1 bt375.2.2.1 bt375.2.2.2).bind fun bt381 => ((spec_LatestSending.f k bt375.1 bt375.2.1 bt375.2.2.1 bt375.2.2.2).bind fun bt383 => (if bt349.2 = bt351.2 then (if bt349.1 = bt351.1 then (if bt359.2 = bt363.2 then ((laws_likeInts.f k bt359.1 bt363.1).bind fun t385 => (if t385 = true then (if bt371.2 = bt373.2 then (if bt371.1 = bt373.1 then (if bt381.2 = bt383.2 then (laws_FnHops.j0 k bt343.1 bt343.2.1 bt343.2.2.1 bt343.2.2.2 bt349.1 bt349.2 bt353.1 bt353.2.1 bt353.2.2.1 bt353.2.2.2 bt359.1 bt359.2 bt367.1 bt367.2 bt371.1 bt371.2 bt375.1 bt375.2.1 bt375.2.2.1 bt375.2.2.2 bt381.1 bt381.2 (bt381.1 != bt383.1)) else (laws_FnHops.j0 k bt343.1 bt343.2.1 bt343.2.2.1 bt343.2.2.2 bt349.1 bt349.2 bt353.1 bt353.2.1 bt353.2.2.1 bt353.2.2.2 bt359.1 bt359.2 bt367.1 bt367.2 bt371.1 bt371.2 bt375.1 bt375.2.1 bt375.2.2.1 bt375.2.2.2 bt381.1 bt381.2 true)) else (laws_FnHops.j0 k bt343.1 bt343.2.1 bt343.2.2.1 bt343.2.2.2 bt349.1 bt349.2 bt353.1 bt353.2.1 bt353.2.2.1 bt353.2.2.2 bt359.1 bt359.2 bt367.1 bt367.2 bt371.1 bt371.2 bt375.1 bt375.2.1 bt375.2.2.1 bt375.2.2.2 bt381.1 bt381.2 true)) else (laws_FnHops.j0 k bt343.1 bt343.2.1 bt343.2.2.1 bt343.2.2.2 bt349.1 bt349.2 bt353.1 bt353.2.1 bt353.2.2.1 bt353.2.2.2 bt359.1 bt359.2 bt367.1 bt367.2 bt371.1 bt371.2 bt375.1 bt375.2.1 bt375.2.2.1 bt375.2.2.2 bt381.1 bt381.2 true)) else (laws_FnHops.j0 k bt343.1 bt343.2.1 bt343.2.2.1 bt343.2.2.2 bt349.1 bt349.2 bt353.1 bt353.2.1 bt353.2.2.1 bt353.2.2.2 bt359.1 bt359.2 bt367.1 bt367.2 bt371.1 bt371.2 bt375.1 bt375.2.1 bt375.2.2.1 bt375.2.2.2 bt381.1 bt381.2 true))) else (laws_FnHops.j0 k bt343.1 bt343.2.1 bt343.2.2.1 bt343.2.2.2 bt349.1 bt349.2 bt353.1 bt353.2.1 bt353.2.2.1 bt353.2.2.2 bt359.1 bt359.2 bt367.1 bt367.2 bt371.1 bt371.2 bt375.1 bt375.2.1 bt375.2.2.1 bt375.2.2.2 bt381.1 bt381.2 true)) else (laws_FnHops.j0 k bt343.1 bt343.2.1 bt343.2.2.1 bt343.2.2.2 bt349.1 bt349.2 bt353.1 bt353.2.1 bt353.2.2.1 bt353.2.2.2 bt359.1 bt359.2 bt367.1 bt367.2 bt371.1 bt371.2 bt375.1 bt375.2.1 bt375.2.2.1 bt375.2.2.2 bt381.1 bt381.2 true)) else (laws_FnHops.j0 k bt343.1 bt343.2.1 bt343.2.2.1 bt343.2.2.2 bt349.1 bt349.2 bt353.1 bt353.2.1 bt353.2.2.1 bt353.2.2.2 bt359.1 bt359.2 bt367.1 bt367.2 bt371.1 bt371.2 bt375.1 bt375.2.1 bt375.2.2.1 bt375.2.2.2 bt381.1 bt381.2 true))))))))))))))) = some r := H
  have A2 := Aside0.mk A20
  clear A20
  by_cases c3 : t342 = true
  · subst c3
    have H1 : (some true) = some r := by rw [if_pos rfl] at H; exact H
    clear H
    have H := H1
    clear H1
    obtain rfl := Option.some.inj H
    go_enter Try.func6, Try.ntmps6
    go_wp2_with (first | ((with_reducible refine gate_callee (f := 24) rfl ?_); refine goesL_ (some 45) rfl rfl Try.func24 (by kernel_rfl) rfl #[.slice A0 l0.length c0] rfl (by (try simp only [List.map_toArray, List.map_cons, List.map_nil]); first | done | rfl | (simp only [List.length_drop, List.length_take]; rfl)) ?_; (with_reducible refine (laws_big.calls _ _ l0 true _ ?side1 ?side2 A2.out).mono ?_); (case side1 => repeat (first | exact HR0.out | (with_reducible refine Kd.C_alloc ?_ _) | (with_reducible refine Kd.C_drewN ?_ _) | (with_reducible refine Kd.C_drew ?_))); (case side2 => exact HC0.out); rintro e w' ⟨rfl, ⟨nd, rfl⟩⟩; refine ⟨_, rfl, ?_⟩))
    go_ret
    exact ⟨by first | rfl | (simp [errW_none, errW_some] <;> rfl) | (simp [*, errW_none, errW_some] <;> rfl), by repeat (first | (with_reducible first | exact HB.out | apply below_alloc | apply pw_below_drewN | apply below_drew1) | exact HB.out)⟩
  · replace c3 := Bool.eq_false_iff.mpr c3
    subst c3
    have H1 : ((spec_DrawStopTick.f k l0).bind fun bt343 => ((impl_StopTick.f k bt343.1 bt343.2.1 bt343.2.2.1 bt343.2.2.2).bind fun bt349 => ((spec_StopTick.f k bt343.1 bt343.2.1 bt343.2.2.1 bt343.2.2.2).bind fun bt351 => ((spec_DrawStoppedModules.f k l0).bind fun bt353 => ((impl_StoppedModules.f k bt353.1 bt353.2.1 bt353.2.2.1 bt353.2.2.2).bind fun bt359 => ((spec_StoppedModules.f k bt353.1 bt353.2.1 bt353.2.2.1 bt353.2.2.2).bind fun bt363 => ((spec_DrawGreatestHop.f k l0).bind fun bt367 => ((impl_GreatestHop.f k bt367.1 bt367.2).bind fun bt371 => ((spec_GreatestHop.f k bt367.1 bt367.2).bind fun bt373 => ((spec_DrawLatestSending.f k l0).bind fun bt375 => ((impl_LatestSending.f k bt375.1 bt375.2.1 bt375.2.2.1 bt375.2.2.2).bind fun bt381 => ((spec_LatestSending.f k bt375.1 bt375.2.1 bt375.2.2.1 bt375.2.2.2).bind fun bt383 => (if bt349.2 = bt351.2 then (if bt349.1 = bt351.1 then (if bt359.2 = bt363.2 then ((laws_likeInts.f k bt359.1 bt363.1).bind fun t385 => (if t385 = true then (if bt371.2 = bt373.2 then (if bt371.1 = bt373.1 then (if bt381.2 = bt383.2 then (laws_FnHops.j0 k bt343.1 bt343.2.1 bt343.2.2.1 bt343.2.2.2 bt349.1 bt349.2 bt353.1 bt353.2.1 bt353.2.2.1 bt353.2.2.2 bt359.1 bt359.2 bt367.1 bt367.2 bt371.1 bt371.2 bt375.1 bt375.2.1 bt375.2.2.1 bt375.2.2.2 bt381.1 bt381.2 (bt381.1 != bt383.1)) else (laws_FnHops.j0 k bt343.1 bt343.2.1 bt343.2.2.1 bt343.2.2.2 bt349.1 bt349.2 bt353.1 bt353.2.1 bt353.2.2.1 bt353.2.2.2 bt359.1 bt359.2 bt367.1 bt367.2 bt371.1 bt371.2 bt375.1 bt375.2.1 bt375.2.2.1 bt375.2.2.2 bt381.1 bt381.2 true)) else (laws_FnHops.j0 k bt343.1 bt343.2.1 bt343.2.2.1 bt343.2.2.2 bt349.1 bt349.2 bt353.1 bt353.2.1 bt353.2.2.1 bt353.2.2.2 bt359.1 bt359.2 bt367.1 bt367.2 bt371.1 bt371.2 bt375.1 bt375.2.1 bt375.2.2.1 bt375.2.2.2 bt381.1 bt381.2 true)) else (laws_FnHops.j0 k bt343.1 bt343.2.1 bt343.2.2.1 bt343.2.2.2 bt349.1 bt349.2 bt353.1 bt353.2.1 bt353.2.2.1 bt353.2.2.2 bt359.1 bt359.2 bt367.1 bt367.2 bt371.1 bt371.2 bt375.1 bt375.2.1 bt375.2.2.1 bt375.2.2.2 bt381.1 bt381.2 true)) else (laws_FnHops.j0 k bt343.1 bt343.2.1 bt343.2.2.1 bt343.2.2.2 bt349.1 bt349.2 bt353.1 bt353.2.1 bt353.2.2.1 bt353.2.2.2 bt359.1 bt359.2 bt367.1 bt367.2 bt371.1 bt371.2 bt375.1 bt375.2.1 bt375.2.2.1 bt375.2.2.2 bt381.1 bt381.2 true))) else (laws_FnHops.j0 k bt343.1 bt343.2.1 bt343.2.2.1 bt343.2.2.2 bt349.1 bt349.2 bt353.1 bt353.2.1 bt353.2.2.1 bt353.2.2.2 bt359.1 bt359.2 bt367.1 bt367.2 bt371.1 bt371.2 bt375.1 bt375.2.1 bt375.2.2.1 bt375.2.2.2 bt381.1 bt381.2 true)) else (laws_FnHops.j0 k bt343.1 bt343.2.1 bt343.2.2.1 bt343.2.2.2 bt349.1 bt349.2 bt353.1 bt353.2.1 bt353.2.2.1 bt353.2.2.2 bt359.1 bt359.2 bt367.1 bt367.2 bt371.1 bt371.2 bt375.1 bt375.2.1 bt375.2.2.1 bt375.2.2.2 bt381.1 bt381.2 true)) else (laws_FnHops.j0 k bt343.1 bt343.2.1 bt343.2.2.1 bt343.2.2.2 bt349.1 bt349.2 bt353.1 bt353.2.1 bt353.2.2.1 bt353.2.2.2 bt359.1 bt359.2 bt367.1 bt367.2 bt371.1 bt371.2 bt375.1 bt375.2.1 bt375.2.2.1 bt375.2.2.2 bt381.1 bt381.2 true)))))))))))))) = some r := by rw [if_neg (show ¬ (false = true) by decide)] at H; exact H
    clear H
    have H := H1
    clear H1
    replace H := Option.bind_eq_some_iff.mp H
    obtain ⟨⟨t343, t344, t345, t346⟩, A40, H⟩ := H
    replace H : ((impl_StopTick.f k t343 t344 t345 t346).bind fun bt349 => ((spec_StopTick.f k t343 t344 t345 t346).bind fun bt351 => ((spec_DrawStoppedModules.f k l0).bind fun bt353 => ((impl_StoppedModules.f k bt353.1 bt353.2.1 bt353.2.2.1 bt353.2.2.2).bind fun bt359 => ((spec_StoppedModules.f k bt353.1 bt353.2.1 bt353.2.2.1 bt353.2.2.2).bind fun bt363 => ((spec_DrawGreatestHop.f k l0).bind fun bt367 => ((impl_GreatestHop.f k bt367.1 bt367.2).bind fun bt371 => ((spec_GreatestHop.f k bt367.1 bt367.2).bind fun bt373 => ((spec_DrawLatestSending.f k l0).bind fun bt375 => ((impl_LatestSending.f k bt375.1 bt375.2.1 bt375.2.2.1 bt375.2.2.2).bind fun bt381 => ((spec_LatestSending.f k bt375.1 bt375.2.1 bt375.2.2.1 bt375.2.2.2).bind fun bt383 => (if bt349.2 = bt351.2 then (if bt349.1 = bt351.1 then (if bt359.2 = bt363.2 then ((laws_likeInts.f k bt359.1 bt363.1).bind fun t385 => (if t385 = true then (if bt371.2 = bt373.2 then (if bt371.1 = bt373.1 then (if bt381.2 = bt383.2 then (laws_FnHops.j0 k t343 t344 t345 t346 bt349.1 bt349.2 bt353.1 bt353.2.1 bt353.2.2.1 bt353.2.2.2 bt359.1 bt359.2 bt367.1 bt367.2 bt371.1 bt371.2 bt375.1 bt375.2.1 bt375.2.2.1 bt375.2.2.2 bt381.1 bt381.2 (bt381.1 != bt383.1)) else (laws_FnHops.j0 k t343 t344 t345 t346 bt349.1 bt349.2 bt353.1 bt353.2.1 bt353.2.2.1 bt353.2.2.2 bt359.1 bt359.2 bt367.1 bt367.2 bt371.1 bt371.2 bt375.1 bt375.2.1 bt375.2.2.1 bt375.2.2.2 bt381.1 bt381.2 true)) else (laws_FnHops.j0 k t343 t344 t345 t346 bt349.1 bt349.2 bt353.1 bt353.2.1 bt353.2.2.1 bt353.2.2.2 bt359.1 bt359.2 bt367.1 bt367.2 bt371.1 bt371.2 bt375.1 bt375.2.1 bt375.2.2.1 bt375.2.2.2 bt381.1 bt381.2 true)) else (laws_FnHops.j0 k t343 t344 t345 t346 bt349.1 bt349.2 bt353.1 bt353.2.1 bt353.2.2.1 bt353.2.2.2 bt359.1 bt359.2 bt367.1 bt367.2 bt371.1 bt371.2 bt375.1 bt375.2.1 bt375.2.2.1 bt375.2.2.2 bt381.1 bt381.2 true)) else (laws_FnHops.j0 k t343 t344 t345 t346 bt349.1 bt349.2 bt353.1 bt353.2.1 bt353.2.2.1 bt353.2.2.2 bt359.1 bt359.2 bt367.1 bt367.2 bt371.1 bt371.2 bt375.1 bt375.2.1 bt375.2.2.1 bt375.2.2.2 bt381.1 bt381.2 true))) else (laws_FnHops.j0 k t343 t344 t345 t346 bt349.1 bt349.2 bt353.1 bt353.2.1 bt353.2.2.1 bt353.2.2.2 bt359.1 bt359.2 bt367.1 bt367.2 bt371.1 bt371.2 bt375.1 bt375.2.1 bt375.2.2.1 bt375.2.2.2 bt381.1 bt381.2 true)) else (laws_FnHops.j0 k t343 t344 t345 t346 bt349.1 bt349.2 bt353.1 bt353.2.1 bt353.2.2.1 bt353.2.2.2 bt359.1 bt359.2 bt367.1 bt367.2 bt371.1 bt371.2 bt375.1 bt375.2.1 bt375.2.2.1 bt375.2.2.2 bt381.1 bt381.2 true)) else (laws_FnHops.j0 k t343 t344 t345 t346 bt349.1 bt349.2 bt353.1 bt353.2.1 bt353.2.2.1 bt353.2.2.2 bt359.1 bt359.2 bt367.1 bt367.2 bt371.1 bt371.2 bt375.1 bt375.2.1 bt375.2.2.1 bt375.2.2.2 bt381.1 bt381.2 true))))))))))))) = some r := H
    have A4 := Aside0.mk A40
    clear A40
    replace H := Option.bind_eq_some_iff.mp H
    obtain ⟨⟨t349, t350⟩, A50, H⟩ := H
    replace H : ((spec_StopTick.f k t343 t344 t345 t346).bind fun bt351 => ((spec_DrawStoppedModules.f k l0).bind fun bt353 => ((impl_StoppedModules.f k bt353.1 bt353.2.1 bt353.2.2.1 bt353.2.2.2).bind fun bt359 => ((spec_StoppedModules.f k bt353.1 bt353.2.1 bt353.2.2.1 bt353.2.2.2).bind fun bt363 => ((spec_DrawGreatestHop.f k l0).bind fun bt367 => ((impl_GreatestHop.f k bt367.1 bt367.2).bind fun bt371 => ((spec_GreatestHop.f k bt367.1 bt367.2).bind fun bt373 => ((spec_DrawLatestSending.f k l0).bind fun bt375 => ((impl_LatestSending.f k bt375.1 bt375.2.1 bt375.2.2.1 bt375.2.2.2).bind fun bt381 => ((spec_LatestSending.f k bt375.1 bt375.2.1 bt375.2.2.1 bt375.2.2.2).bind fun bt383 => (if t350 = bt351.2 then (if t349 = bt351.1 then (if bt359.2 = bt363.2 then ((laws_likeInts.f k bt359.1 bt363.1).bind fun t385 => (if t385 = true then (if bt371.2 = bt373.2 then (if bt371.1 = bt373.1 then (if bt381.2 = bt383.2 then (laws_FnHops.j0 k t343 t344 t345 t346 t349 t350 bt353.1 bt353.2.1 bt353.2.2.1 bt353.2.2.2 bt359.1 bt359.2 bt367.1 bt367.2 bt371.1 bt371.2 bt375.1 bt375.2.1 bt375.2.2.1 bt375.2.2.2 bt381.1 bt381.2 (bt381.1 != bt383.1)) else (laws_FnHops.j0 k t343 t344 t345 t346 t349 t350 bt353.1 bt353.2.1 bt353.2.2.1 bt353.2.2.2 bt359.1 bt359.2 bt367.1 bt367.2 bt371.1 bt371.2 bt375.1 bt375.2.1 bt375.2.2.1 bt375.2.2.2 bt381.1 bt381.2 true)) else (laws_FnHops.j0 k t343 t344 t345 t346 t349 t350 bt353.1 bt353.2.1 bt353.2.2.1 bt353.2.2.2 bt359.1 bt359.2 bt367.1 bt367.2 bt371.1 bt371.2 bt375.1 bt375.2.1 bt375.2.2.1 bt375.2.2.2 bt381.1 bt381.2 true)) else (laws_FnHops.j0 k t343 t344 t345 t346 t349 t350 bt353.1 bt353.2.1 bt353.2.2.1 bt353.2.2.2 bt359.1 bt359.2 bt367.1 bt367.2 bt371.1 bt371.2 bt375.1 bt375.2.1 bt375.2.2.1 bt375.2.2.2 bt381.1 bt381.2 true)) else (laws_FnHops.j0 k t343 t344 t345 t346 t349 t350 bt353.1 bt353.2.1 bt353.2.2.1 bt353.2.2.2 bt359.1 bt359.2 bt367.1 bt367.2 bt371.1 bt371.2 bt375.1 bt375.2.1 bt375.2.2.1 bt375.2.2.2 bt381.1 bt381.2 true))) else (laws_FnHops.j0 k t343 t344 t345 t346 t349 t350 bt353.1 bt353.2.1 bt353.2.2.1 bt353.2.2.2 bt359.1 bt359.2 bt367.1 bt367.2 bt371.1 bt371.2 bt375.1 bt375.2.1 bt375.2.2.1 bt375.2.2.2 bt381.1 bt381.2 true)) else (laws_FnHops.j0 k t343 t344 t345 t346 t349 t350 bt353.1 bt353.2.1 bt353.2.2.1 bt353.2.2.2 bt359.1 bt359.2 bt367.1 bt367.2 bt371.1 bt371.2 bt375.1 bt375.2.1 bt375.2.2.1 bt375.2.2.2 bt381.1 bt381.2 true)) else (laws_FnHops.j0 k t343 t344 t345 t346 t349 t350 bt353.1 bt353.2.1 bt353.2.2.1 bt353.2.2.2 bt359.1 bt359.2 bt367.1 bt367.2 bt371.1 bt371.2 bt375.1 bt375.2.1 bt375.2.2.1 bt375.2.2.2 bt381.1 bt381.2 true)))))))))))) = some r := H
    have A5 := Aside0.mk A50
    clear A50
    replace H := Option.bind_eq_some_iff.mp H
    obtain ⟨⟨t351, t352⟩, A60, H⟩ := H
    replace H : ((spec_DrawStoppedModules.f k l0).bind fun bt353 => ((impl_StoppedModules.f k bt353.1 bt353.2.1 bt353.2.2.1 bt353.2.2.2).bind fun bt359 => ((spec_StoppedModules.f k bt353.1 bt353.2.1 bt353.2.2.1 bt353.2.2.2).bind fun bt363 => ((spec_DrawGreatestHop.f k l0).bind fun bt367 => ((impl_GreatestHop.f k bt367.1 bt367.2).bind fun bt371 => ((spec_GreatestHop.f k bt367.1 bt367.2).bind fun bt373 => ((spec_DrawLatestSending.f k l0).bind fun bt375 => ((impl_LatestSending.f k bt375.1 bt375.2.1 bt375.2.2.1 bt375.2.2.2).bind fun bt381 => ((spec_LatestSending.f k bt375.1 bt375.2.1 bt375.2.2.1 bt375.2.2.2).bind fun bt383 => (if t350 = t352 then (if t349 = t351 then (if bt359.2 = bt363.2 then ((laws_likeInts.f k bt359.1 bt363.1).bind fun t385 => (if t385 = true then (if bt371.2 = bt373.2 then (if bt371.1 = bt373.1 then (if bt381.2 = bt383.2 then (laws_FnHops.j0 k t343 t344 t345 t346 t349 t350 bt353.1 bt353.2.1 bt353.2.2.1 bt353.2.2.2 bt359.1 bt359.2 bt367.1 bt367.2 bt371.1 bt371.2 bt375.1 bt375.2.1 bt375.2.2.1 bt375.2.2.2 bt381.1 bt381.2 (bt381.1 != bt383.1)) else (laws_FnHops.j0 k t343 t344 t345 t346 t349 t350 bt353.1 bt353.2.1 bt353.2.2.1 bt353.2.2.2 bt359.1 bt359.2 bt367.1 bt367.2 bt371.1 bt371.2 bt375.1 bt375.2.1 bt375.2.2.1 bt375.2.2.2 bt381.1 bt381.2 true)) else (laws_FnHops.j0 k t343 t344 t345 t346 t349 t350 bt353.1 bt353.2.1 bt353.2.2.1 bt353.2.2.2 bt359.1 bt359.2 bt367.1 bt367.2 bt371.1 bt371.2 bt375.1 bt375.2.1 bt375.2.2.1 bt375.2.2.2 bt381.1 bt381.2 true)) else (laws_FnHops.j0 k t343 t344 t345 t346 t349 t350 bt353.1 bt353.2.1 bt353.2.2.1 bt353.2.2.2 bt359.1 bt359.2 bt367.1 bt367.2 bt371.1 bt371.2 bt375.1 bt375.2.1 bt375.2.2.1 bt375.2.2.2 bt381.1 bt381.2 true)) else (laws_FnHops.j0 k t343 t344 t345 t346 t349 t350 bt353.1 bt353.2.1 bt353.2.2.1 bt353.2.2.2 bt359.1 bt359.2 bt367.1 bt367.2 bt371.1 bt371.2 bt375.1 bt375.2.1 bt375.2.2.1 bt375.2.2.2 bt381.1 bt381.2 true))) else (laws_FnHops.j0 k t343 t344 t345 t346 t349 t350 bt353.1 bt353.2.1 bt353.2.2.1 bt353.2.2.2 bt359.1 bt359.2 bt367.1 bt367.2 bt371.1 bt371.2 bt375.1 bt375.2.1 bt375.2.2.1 bt375.2.2.2 bt381.1 bt381.2 true)) else (laws_FnHops.j0 k t343 t344 t345 t346 t349 t350 bt353.1 bt353.2.1 bt353.2.2.1 bt353.2.2.2 bt359.1 bt359.2 bt367.1 bt367.2 bt371.1 bt371.2 bt375.1 bt375.2.1 bt375.2.2.1 bt375.2.2.2 bt381.1 bt381.2 true)) else (laws_FnHops.j0 k t343 t344 t345 t346 t349 t350 bt353.1 bt353.2.1 bt353.2.2.1 bt353.2.2.2 bt359.1 bt359.2 bt367.1 bt367.2 bt371.1 bt371.2 bt375.1 bt375.2.1 bt375.2.2.1 bt375.2.2.2 bt381.1 bt381.2 true))))))))))) = some r := H
    have A6 := Aside0.mk A60
    clear A60
    replace H := Option.bind_eq_some_iff.mp H
    obtain ⟨⟨t353, t354, t355, t356⟩, A70, H⟩ := H
    replace H : ((impl_StoppedModules.f k t353 t354 t355 t356).bind fun bt359 => ((spec_StoppedModules.f k t353 t354 t355 t356).bind fun bt363 => ((spec_DrawGreatestHop.f k l0).bind fun bt367 => ((impl_GreatestHop.f k bt367.1 bt367.2).bind fun bt371 => ((spec_GreatestHop.f k bt367.1 bt367.2).bind fun bt373 => ((spec_DrawLatestSending.f k l0).bind fun bt375 => ((impl_LatestSending.f k bt375.1 bt375.2.1 bt375.2.2.1 bt375.2.2.2).bind fun bt381 => ((spec_LatestSending.f k bt375.1 bt375.2.1 bt375.2.2.1 bt375.2.2.2).bind fun bt383 => (if t350 = t352 then (if t349 = t351 then (if bt359.2 = bt363.2 then ((laws_likeInts.f k bt359.1 bt363.1).bind fun t385 => (if t385 = true then (if bt371.2 = bt373.2 then (if bt371.1 = bt373.1 then (if bt381.2 = bt383.2 then (laws_FnHops.j0 k t343 t344 t345 t346 t349 t350 t353 t354 t355 t356 bt359.1 bt359.2 bt367.1 bt367.2 bt371.1 bt371.2 bt375.1 bt375.2.1 bt375.2.2.1 bt375.2.2.2 bt381.1 bt381.2 (bt381.1 != bt383.1)) else (laws_FnHops.j0 k t343 t344 t345 t346 t349 t350 t353 t354 t355 t356 bt359.1 bt359.2 bt367.1 bt367.2 bt371.1 bt371.2 bt375.1 bt375.2.1 bt375.2.2.1 bt375.2.2.2 bt381.1 bt381.2 true)) else (laws_FnHops.j0 k t343 t344 t345 t346 t349 t350 t353 t354 t355 t356 bt359.1 bt359.2 bt367.1 bt367.2 bt371.1 bt371.2 bt375.1 bt375.2.1 bt375.2.2.1 bt375.2.2.2 bt381.1 bt381.2 true)) else (laws_FnHops.j0 k t343 t344 t345 t346 t349 t350 t353 t354 t355 t356 bt359.1 bt359.2 bt367.1 bt367.2 bt371.1 bt371.2 bt375.1 bt375.2.1 bt375.2.2.1 bt375.2.2.2 bt381.1 bt381.2 true)) else (laws_FnHops.j0 k t343 t344 t345 t346 t349 t350 t353 t354 t355 t356 bt359.1 bt359.2 bt367.1 bt367.2 bt371.1 bt371.2 bt375.1 bt375.2.1 bt375.2.2.1 bt375.2.2.2 bt381.1 bt381.2 true))) else (laws_FnHops.j0 k t343 t344 t345 t346 t349 t350 t353 t354 t355 t356 bt359.1 bt359.2 bt367.1 bt367.2 bt371.1 bt371.2 bt375.1 bt375.2.1 bt375.2.2.1 bt375.2.2.2 bt381.1 bt381.2 true)) else (laws_FnHops.j0 k t343 t344 t345 t346 t349 t350 t353 t354 t355 t356 bt359.1 bt359.2 bt367.1 bt367.2 bt371.1 bt371.2 bt375.1 bt375.2.1 bt375.2.2.1 bt375.2.2.2 bt381.1 bt381.2 true)) else (laws_FnHops.j0 k t343 t344 t345 t346 t349 t350 t353 t354 t355 t356 bt359.1 bt359.2 bt367.1 bt367.2 bt371.1 bt371.2 bt375.1 bt375.2.1 bt375.2.2.1 bt375.2.2.2 bt381.1 bt381.2 true)))))))))) = some r := H
    have A7 := Aside0.mk A70
    clear A70
    replace H := Option.bind_eq_some_iff.mp H
    obtain ⟨⟨t359, t360⟩, A80, H⟩ := H
    replace H : ((spec_StoppedModules.f k t353 t354 t355 t356).bind fun bt363 => ((spec_DrawGreatestHop.f k l0).bind fun bt367 => ((impl_GreatestHop.f k bt367.1 bt367.2).bind fun bt371 => ((spec_GreatestHop.f k bt367.1 bt367.2).bind fun bt373 => ((spec_DrawLatestSending.f k l0).bind fun bt375 => ((impl_LatestSending.f k bt375.1 bt375.2.1 bt375.2.2.1 bt375.2.2.2).bind fun bt381 => ((spec_LatestSending.f k bt375.1 bt375.2.1 bt375.2.2.1 bt375.2.2.2).bind fun bt383 => (if t350 = t352 then (if t349 = t351 then (if t360 = bt363.2 then ((laws_likeInts.f k t359 bt363.1).bind fun t385 => (if t385 = true then (if bt371.2 = bt373.2 then (if bt371.1 = bt373.1 then (if bt381.2 = bt383.2 then (laws_FnHops.j0 k t343 t344 t345 t346 t349 t350 t353 t354 t355 t356 t359 t360 bt367.1 bt367.2 bt371.1 bt371.2 bt375.1 bt375.2.1 bt375.2.2.1 bt375.2.2.2 bt381.1 bt381.2 (bt381.1 != bt383.1)) else (laws_FnHops.j0 k t343 t344 t345 t346 t349 t350 t353 t354 t355 t356 t359 t360 bt367.1 bt367.2 bt371.1 bt371.2 bt375.1 bt375.2.1 bt375.2.2.1 bt375.2.2.2 bt381.1 bt381.2 true)) else (laws_FnHops.j0 k t343 t344 t345 t346 t349 t350 t353 t354 t355 t356 t359 t360 bt367.1 bt367.2 bt371.1 bt371.2 bt375.1 bt375.2.1 bt375.2.2.1 bt375.2.2.2 bt381.1 bt381.2 true)) else (laws_FnHops.j0 k t343 t344 t345 t346 t349 t350 t353 t354 t355 t356 t359 t360 bt367.1 bt367.2 bt371.1 bt371.2 bt375.1 bt375.2.1 bt375.2.2.1 bt375.2.2.2 bt381.1 bt381.2 true)) else (laws_FnHops.j0 k t343 t344 t345 t346 t349 t350 t353 t354 t355 t356 t359 t360 bt367.1 bt367.2 bt371.1 bt371.2 bt375.1 bt375.2.1 bt375.2.2.1 bt375.2.2.2 bt381.1 bt381.2 true))) else (laws_FnHops.j0 k t343 t344 t345 t346 t349 t350 t353 t354 t355 t356 t359 t360 bt367.1 bt367.2 bt371.1 bt371.2 bt375.1 bt375.2.1 bt375.2.2.1 bt375.2.2.2 bt381.1 bt381.2 true)) else (laws_FnHops.j0 k t343 t344 t345 t346 t349 t350 t353 t354 t355 t356 t359 t360 bt367.1 bt367.2 bt371.1 bt371.2 bt375.1 bt375.2.1 bt375.2.2.1 bt375.2.2.2 bt381.1 bt381.2 true)) else (laws_FnHops.j0 k t343 t344 t345 t346 t349 t350 t353 t354 t355 t356 t359 t360 bt367.1 bt367.2 bt371.1 bt371.2 bt375.1 bt375.2.1 bt375.2.2.1 bt375.2.2.2 bt381.1 bt381.2 true))))))))) = some r := H
    have A8 := Aside0.mk A80
    clear A80
    replace H := Option.bind_eq_some_iff.mp H
    obtain ⟨⟨t363, t364⟩, A90, H⟩ := H
    replace H : ((spec_DrawGreatestHop.f k l0).bind fun bt367 => ((impl_GreatestHop.f k bt367.1 bt367.2).bind fun bt371 => ((spec_GreatestHop.f k bt367.1 bt367.2).bind fun bt373 => ((spec_DrawLatestSending.f k l0).bind fun bt375 => ((impl_LatestSending.f k bt375.1 bt375.2.1 bt375.2.2.1 bt375.2.2.2).bind fun bt381 => ((spec_LatestSending.f k bt375.1 bt375.2.1 bt375.2.2.1 bt375.2.2.2).bind fun bt383 => (if t350 = t352 then (if t349 = t351 then (if t360 = t364 then ((laws_likeInts.f k t359 t363).bind fun t385 => (if t385 = true then (if bt371.2 = bt373.2 then (if bt371.1 = bt373.1 then (if bt381.2 = bt383.2 then (laws_FnHops.j0 k t343 t344 t345 t346 t349 t350 t353 t354 t355 t356 t359 t360 bt367.1 bt367.2 bt371.1 bt371.2 bt375.1 bt375.2.1 bt375.2.2.1 bt375.2.2.2 bt381.1 bt381.2 (bt381.1 != bt383.1)) else (laws_FnHops.j0 k t343 t344 t345 t346 t349 t350 t353 t354 t355 t356 t359 t360 bt367.1 bt367.2 bt371.1 bt371.2 bt375.1 bt375.2.1 bt375.2.2.1 bt375.2.2.2 bt381.1 bt381.2 true)) else (laws_FnHops.j0 k t343 t344 t345 t346 t349 t350 t353 t354 t355 t356 t359 t360 bt367.1 bt367.2 bt371.1 bt371.2 bt375.1 bt375.2.1 bt375.2.2.1 bt375.2.2.2 bt381.1 bt381.2 true)) else (laws_FnHops.j0 k t343 t344 t345 t346 t349 t350 t353 t354 t355 t356 t359 t360 bt367.1 bt367.2 bt371.1 bt371.2 bt375.1 bt375.2.1 bt375.2.2.1 bt375.2.2.2 bt381.1 bt381.2 true)) else (laws_FnHops.j0 k t343 t344 t345 t346 t349 t350 t353 t354 t355 t356 t359 t360 bt367.1 bt367.2 bt371.1 bt371.2 bt375.1 bt375.2.1 bt375.2.2.1 bt375.2.2.2 bt381.1 bt381.2 true))) else (laws_FnHops.j0 k t343 t344 t345 t346 t349 t350 t353 t354 t355 t356 t359 t360 bt367.1 bt367.2 bt371.1 bt371.2 bt375.1 bt375.2.1 bt375.2.2.1 bt375.2.2.2 bt381.1 bt381.2 true)) else (laws_FnHops.j0 k t343 t344 t345 t346 t349 t350 t353 t354 t355 t356 t359 t360 bt367.1 bt367.2 bt371.1 bt371.2 bt375.1 bt375.2.1 bt375.2.2.1 bt375.2.2.2 bt381.1 bt381.2 true)) else (laws_FnHops.j0 k t343 t344 t345 t346 t349 t350 t353 t354 t355 t356 t359 t360 bt367.1 bt367.2 bt371.1 bt371.2 bt375.1 bt375.2.1 bt375.2.2.1 bt375.2.2.2 bt381.1 bt381.2 true)))))))) = some r := H
    have A9 := Aside0.mk A90
    clear A90
    replace H := Option.bind_eq_some_iff.mp H
    obtain ⟨⟨t367, t368⟩, A100, H⟩ := H
    replace H : ((impl_GreatestHop.f k t367 t368).bind fun bt371 => ((spec_GreatestHop.f k t367 t368).bind fun bt373 => ((spec_DrawLatestSending.f k l0).bind fun bt375 => ((impl_LatestSending.f k bt375.1 bt375.2.1 bt375.2.2.1 bt375.2.2.2).bind fun bt381 => ((spec_LatestSending.f k bt375.1 bt375.2.1 bt375.2.2.1 bt375.2.2.2).bind fun bt383 => (if t350 = t352 then (if t349 = t351 then (if t360 = t364 then ((laws_likeInts.f k t359 t363).bind fun t385 => (if t385 = true then (if bt371.2 = bt373.2 then (if bt371.1 = bt373.1 then (if bt381.2 = bt383.2 then (laws_FnHops.j0 k t343 t344 t345 t346 t349 t350 t353 t354 t355 t356 t359 t360 t367 t368 bt371.1 bt371.2 bt375.1 bt375.2.1 bt375.2.2.1 bt375.2.2.2 bt381.1 bt381.2 (bt381.1 != bt383.1)) else (laws_FnHops.j0 k t343 t344 t345 t346 t349 t350 t353 t354 t355 t356 t359 t360 t367 t368 bt371.1 bt371.2 bt375.1 bt375.2.1 bt375.2.2.1 bt375.2.2.2 bt381.1 bt381.2 true)) else (laws_FnHops.j0 k t343 t344 t345 t346 t349 t350 t353 t354 t355 t356 t359 t360 t367 t368 bt371.1 bt371.2 bt375.1 bt375.2.1 bt375.2.2.1 bt375.2.2.2 bt381.1 bt381.2 true)) else (laws_FnHops.j0 k t343 t344 t345 t346 t349 t350 t353 t354 t355 t356 t359 t360 t367 t368 bt371.1 bt371.2 bt375.1 bt375.2.1 bt375.2.2.1 bt375.2.2.2 bt381.1 bt381.2 true)) else (laws_FnHops.j0 k t343 t344 t345 t346 t349 t350 t353 t354 t355 t356 t359 t360 t367 t368 bt371.1 bt371.2 bt375.1 bt375.2.1 bt375.2.2.1 bt375.2.2.2 bt381.1 bt381.2 true))) else (laws_FnHops.j0 k t343 t344 t345 t346 t349 t350 t353 t354 t355 t356 t359 t360 t367 t368 bt371.1 bt371.2 bt375.1 bt375.2.1 bt375.2.2.1 bt375.2.2.2 bt381.1 bt381.2 true)) else (laws_FnHops.j0 k t343 t344 t345 t346 t349 t350 t353 t354 t355 t356 t359 t360 t367 t368 bt371.1 bt371.2 bt375.1 bt375.2.1 bt375.2.2.1 bt375.2.2.2 bt381.1 bt381.2 true)) else (laws_FnHops.j0 k t343 t344 t345 t346 t349 t350 t353 t354 t355 t356 t359 t360 t367 t368 bt371.1 bt371.2 bt375.1 bt375.2.1 bt375.2.2.1 bt375.2.2.2 bt381.1 bt381.2 true))))))) = some r := H
    have A10 := Aside0.mk A100
    clear A100
    replace H := Option.bind_eq_some_iff.mp H
    obtain ⟨⟨t371, t372⟩, A110, H⟩ := H
    replace H : ((spec_GreatestHop.f k t367 t368).bind fun bt373 => ((spec_DrawLatestSending.f k l0).bind fun bt375 => ((impl_LatestSending.f k bt375.1 bt375.2.1 bt375.2.2.1 bt375.2.2.2).bind fun bt381 => ((spec_LatestSending.f k bt375.1 bt375.2.1 bt375.2.2.1 bt375.2.2.2).bind fun bt383 => (if t350 = t352 then (if t349 = t351 then (if t360 = t364 then ((laws_likeInts.f k t359 t363).bind fun t385 => (if t385 = true then (if t372 = bt373.2 then (if t371 = bt373.1 then (if bt381.2 = bt383.2 then (laws_FnHops.j0 k t343 t344 t345 t346 t349 t350 t353 t354 t355 t356 t359 t360 t367 t368 t371 t372 bt375.1 bt375.2.1 bt375.2.2.1 bt375.2.2.2 bt381.1 bt381.2 (bt381.1 != bt383.1)) else (laws_FnHops.j0 k t343 t344 t345 t346 t349 t350 t353 t354 t355 t356 t359 t360 t367 t368 t371 t372 bt375.1 bt375.2.1 bt375.2.2.1 bt375.2.2.2 bt381.1 bt381.2 true)) else (laws_FnHops.j0 k t343 t344 t345 t346 t349 t350 t353 t354 t355 t356 t359 t360 t367 t368 t371 t372 bt375.1 bt375.2.1 bt375.2.2.1 bt375.2.2.2 bt381.1 bt381.2 true)) else (laws_FnHops.j0 k t343 t344 t345 t346 t349 t350 t353 t354 t355 t356 t359 t360 t367 t368 t371 t372 bt375.1 bt375.2.1 bt375.2.2.1 bt375.2.2.2 bt381.1 bt381.2 true)) else (laws_FnHops.j0 k t343 t344 t345 t346 t349 t350 t353 t354 t355 t356 t359 t360 t367 t368 t371 t372 bt375.1 bt375.2.1 bt375.2.2.1 bt375.2.2.2 bt381.1 bt381.2 true))) else (laws_FnHops.j0 k t343 t344 t345 t346 t349 t350 t353 t354 t355 t356 t359 t360 t367 t368 t371 t372 bt375.1 bt375.2.1 bt375.2.2.1 bt375.2.2.2 bt381.1 bt381.2 true)) else (laws_FnHops.j0 k t343 t344 t345 t346 t349 t350 t353 t354 t355 t356 t359 t360 t367 t368 t371 t372 bt375.1 bt375.2.1 bt375.2.2.1 bt375.2.2.2 bt381.1 bt381.2 true)) else (laws_FnHops.j0 k t343 t344 t345 t346 t349 t350 t353 t354 t355 t356 t359 t360 t367 t368 t371 t372 bt375.1 bt375.2.1 bt375.2.2.1 bt375.2.2.2 bt381.1 bt381.2 true)))))) = some r := H
    have A11 := Aside0.mk A110
    clear A110
    replace H := Option.bind_eq_some_iff.mp H
    obtain ⟨⟨t373, t374⟩, A120, H⟩ := H
    replace H : ((spec_DrawLatestSending.f k l0).bind fun bt375 => ((impl_LatestSending.f k bt375.1 bt375.2.1 bt375.2.2.1 bt375.2.2.2).bind fun bt381 => ((spec_LatestSending.f k bt375.1 bt375.2.1 bt375.2.2.1 bt375.2.2.2).bind fun bt383 => (if t350 = t352 then (if t349 = t351 then (if t360 = t364 then ((laws_likeInts.f k t359 t363).bind fun t385 => (if t385 = true then (if t372 = t374 then (if t371 = t373 then (if bt381.2 = bt383.2 then (laws_FnHops.j0 k t343 t344 t345 t346 t349 t350 t353 t354 t355 t356 t359 t360 t367 t368 t371 t372 bt375.1 bt375.2.1 bt375.2.2.1 bt375.2.2.2 bt381.1 bt381.2 (bt381.1 != bt383.1)) else (laws_FnHops.j0 k t343 t344 t345 t346 t349 t350 t353 t354 t355 t356 t359 t360 t367 t368 t371 t372 bt375.1 bt375.2.1 bt375.2.2.1 bt375.2.2.2 bt381.1 bt381.2 true)) else (laws_FnHops.j0 k t343 t344 t345 t346 t349 t350 t353 t354 t355 t356 t359 t360 t367 t368 t371 t372 bt375.1 bt375.2.1 bt375.2.2.1 bt375.2.2.2 bt381.1 bt381.2 true)) else (laws_FnHops.j0 k t343 t344 t345 t346 t349 t350 t353 t354 t355 t356 t359 t360 t367 t368 t371 t372 bt375.1 bt375.2.1 bt375.2.2.1 bt375.2.2.2 bt381.1 bt381.2 true)) else (laws_FnHops.j0 k t343 t344 t345 t346 t349 t350 t353 t354 t355 t356 t359 t360 t367 t368 t371 t372 bt375.1 bt375.2.1 bt375.2.2.1 bt375.2.2.2 bt381.1 bt381.2 true))) else (laws_FnHops.j0 k t343 t344 t345 t346 t349 t350 t353 t354 t355 t356 t359 t360 t367 t368 t371 t372 bt375.1 bt375.2.1 bt375.2.2.1 bt375.2.2.2 bt381.1 bt381.2 true)) else (laws_FnHops.j0 k t343 t344 t345 t346 t349 t350 t353 t354 t355 t356 t359 t360 t367 t368 t371 t372 bt375.1 bt375.2.1 bt375.2.2.1 bt375.2.2.2 bt381.1 bt381.2 true)) else (laws_FnHops.j0 k t343 t344 t345 t346 t349 t350 t353 t354 t355 t356 t359 t360 t367 t368 t371 t372 bt375.1 bt375.2.1 bt375.2.2.1 bt375.2.2.2 bt381.1 bt381.2 true))))) = some r := H
    have A12 := Aside0.mk A120
    clear A120
    replace H := Option.bind_eq_some_iff.mp H
    obtain ⟨⟨t375, t376, t377, t378⟩, A130, H⟩ := H
    replace H : ((impl_LatestSending.f k t375 t376 t377 t378).bind fun bt381 => ((spec_LatestSending.f k t375 t376 t377 t378).bind fun bt383 => (if t350 = t352 then (if t349 = t351 then (if t360 = t364 then ((laws_likeInts.f k t359 t363).bind fun t385 => (if t385 = true then (if t372 = t374 then (if t371 = t373 then (if bt381.2 = bt383.2 then (laws_FnHops.j0 k t343 t344 t345 t346 t349 t350 t353 t354 t355 t356 t359 t360 t367 t368 t371 t372 t375 t376 t377 t378 bt381.1 bt381.2 (bt381.1 != bt383.1)) else (laws_FnHops.j0 k t343 t344 t345 t346 t349 t350 t353 t354 t355 t356 t359 t360 t367 t368 t371 t372 t375 t376 t377 t378 bt381.1 bt381.2 true)) else (laws_FnHops.j0 k t343 t344 t345 t346 t349 t350 t353 t354 t355 t356 t359 t360 t367 t368 t371 t372 t375 t376 t377 t378 bt381.1 bt381.2 true)) else (laws_FnHops.j0 k t343 t344 t345 t346 t349 t350 t353 t354 t355 t356 t359 t360 t367 t368 t371 t372 t375 t376 t377 t378 bt381.1 bt381.2 true)) else (laws_FnHops.j0 k t343 t344 t345 t346 t349 t350 t353 t354 t355 t356 t359 t360 t367 t368 t371 t372 t375 t376 t377 t378 bt381.1 bt381.2 true))) else (laws_FnHops.j0 k t343 t344 t345 t346 t349 t350 t353 t354 t355 t356 t359 t360 t367 t368 t371 t372 t375 t376 t377 t378 bt381.1 bt381.2 true)) else (laws_FnHops.j0 k t343 t344 t345 t346 t349 t350 t353 t354 t355 t356 t359 t360 t367 t368 t371 t372 t375 t376 t377 t378 bt381.1 bt381.2 true)) else (laws_FnHops.j0 k t343 t344 t345 t346 t349 t350 t353 t354 t355 t356 t359 t360 t367 t368 t371 t372 t375 t376 t377 t378 bt381.1 bt381.2 true)))) = some r := H
    have A13 := Aside0.mk A130
    clear A130
    replace H := Option.bind_eq_some_iff.mp H
    obtain ⟨⟨t381, t382⟩, A140, H⟩ := H
    replace H : ((spec_LatestSending.f k t375 t376 t377 t378).bind fun bt383 => (if t350 = t352 then (if t349 = t351 then (if t360 = t364 then ((laws_likeInts.f k t359 t363).bind fun t385 => (if t385 = true then (if t372 = t374 then (if t371 = t373 then (if t382 = bt383.2 then (laws_FnHops.j0 k t343 t344 t345 t346 t349 t350 t353 t354 t355 t356 t359 t360 t367 t368 t371 t372 t375 t376 t377 t378 t381 t382 (t381 != bt383.1)) else (laws_FnHops.j0 k t343 t344 t345 t346 t349 t350 t353 t354 t355 t356 t359 t360 t367 t368 t371 t372 t375 t376 t377 t378 t381 t382 true)) else (laws_FnHops.j0 k t343 t344 t345 t346 t349 t350 t353 t354 t355 t356 t359 t360 t367 t368 t371 t372 t375 t376 t377 t378 t381 t382 true)) else (laws_FnHops.j0 k t343 t344 t345 t346 t349 t350 t353 t354 t355 t356 t359 t360 t367 t368 t371 t372 t375 t376 t377 t378 t381 t382 true)) else (laws_FnHops.j0 k t343 t344 t345 t346 t349 t350 t353 t354 t355 t356 t359 t360 t367 t368 t371 t372 t375 t376 t377 t378 t381 t382 true))) else (laws_FnHops.j0 k t343 t344 t345 t346 t349 t350 t353 t354 t355 t356 t359 t360 t367 t368 t371 t372 t375 t376 t377 t378 t381 t382 true)) else (laws_FnHops.j0 k t343 t344 t345 t346 t349 t350 t353 t354 t355 t356 t359 t360 t367 t368 t371 t372 t375 t376 t377 t378 t381 t382 true)) else (laws_FnHops.j0 k t343 t344 t345 t346 t349 t350 t353 t354 t355 t356 t359 t360 t367 t368 t371 t372 t375 t376 t377 t378 t381 t382 true))) = some r := H
    have A14 := Aside0.mk A140
    clear A140
    replace H := Option.bind_eq_some_iff.mp H
    obtain ⟨⟨t383, t384⟩, A150, H⟩ := H
    replace H : (if t350 = t352 then (if t349 = t351 then (if t360 = t364 then ((laws_likeInts.f k t359 t363).bind fun t385 => (if t385 = true then (if t372 = t374 then (if t371 = t373 then (if t382 = t384 then (laws_FnHops.j0 k t343 t344 t345 t346 t349 t350 t353 t354 t355 t356 t359 t360 t367 t368 t371 t372 t375 t376 t377 t378 t381 t382 (t381 != t383)) else (laws_FnHops.j0 k t343 t344 t345 t346 t349 t350 t353 t354 t355 t356 t359 t360 t367 t368 t371 t372 t375 t376 t377 t378 t381 t382 true)) else (laws_FnHops.j0 k t343 t344 t345 t346 t349 t350 t353 t354 t355 t356 t359 t360 t367 t368 t371 t372 t375 t376 t377 t378 t381 t382 true)) else (laws_FnHops.j0 k t343 t344 t345 t346 t349 t350 t353 t354 t355 t356 t359 t360 t367 t368 t371 t372 t375 t376 t377 t378 t381 t382 true)) else (laws_FnHops.j0 k t343 t344 t345 t346 t349 t350 t353 t354 t355 t356 t359 t360 t367 t368 t371 t372 t375 t376 t377 t378 t381 t382 true))) else (laws_FnHops.j0 k t343 t344 t345 t346 t349 t350 t353 t354 t355 t356 t359 t360 t367 t368 t371 t372 t375 t376 t377 t378 t381 t382 true)) else (laws_FnHops.j0 k t343 t344 t345 t346 t349 t350 t353 t354 t355 t356 t359 t360 t367 t368 t371 t372 t375 t376 t377 t378 t381 t382 true)) else (laws_FnHops.j0 k t343 t344 t345 t346 t349 t350 t353 t354 t355 t356 t359 t360 t367 t368 t371 t372 t375 t376 t377 t378 t381 t382 true)) = some r := H
    have A15 := Aside0.mk A150
    clear A150
    have HC16 := Aside0.mk H
    clear H
    go_enter Try.func6, Try.ntmps6
    go_upto_region 15 with (first | ((with_reducible refine gate_callee (f := 24) rfl ?_); refine goesL_ (some 45) rfl rfl Try.func24 (by kernel_rfl) rfl #[.slice A0 l0.length c0] rfl (by (try simp only [List.map_toArray, List.map_cons, List.map_nil]); first | done | rfl | (simp only [List.length_drop, List.length_take]; rfl)) ?_; (with_reducible refine (laws_big.calls _ _ l0 false _ ?side1 ?side2 A2.out).mono ?_); (case side1 => repeat (first | exact HR0.out | (with_reducible refine Kd.C_alloc ?_ _) | (with_reducible refine Kd.C_drewN ?_ _) | (with_reducible refine Kd.C_drew ?_))); (case side2 => exact HC0.out); rintro e w' ⟨rfl, ⟨nd, rfl⟩⟩; refine ⟨_, rfl, ?_⟩) | ((with_reducible refine gate_callee (f := 25) rfl ?_); refine goesL_ (some 48) rfl rfl Try.func25 (by kernel_rfl) rfl #[.slice A0 l0.length c0] rfl (by (try simp only [List.map_toArray, List.map_cons, List.map_nil]); first | done | rfl | (simp only [List.length_drop, List.length_take]; rfl)) ?_; (with_reducible refine (spec_DrawStopTick.calls k _ _ l0 t343 t344 t345 t346 _ ?side1 ?side2 A4.out).mono ?_); (case side1 => repeat (first | exact HR0.out | (with_reducible refine Kd.C_alloc ?_ _) | (with_reducible refine Kd.C_drewN ?_ _) | (with_reducible refine Kd.C_drew ?_))); (case side2 => exact HC0.out); rintro e w17 ⟨v347, rfl, ho0, hb⟩; refine ⟨_, rfl, ?_⟩; have n0_ := Aside0.mk (Kd.R_lower ho0 (below_size (by repeat (first | (with_reducible first | exact HB.out | apply below_alloc | apply pw_below_drewN | apply below_drew1) | exact HB.out)))); have n1_ := Aside0.mk (below_step (by repeat (first | (with_reducible first | exact HB.out | apply below_alloc | apply pw_below_drewN | apply below_drew1) | exact HB.out)) hb); clear HB; have HO348 := n0_; have HB := n1_; clear n0_ n1_; (try clear hb); (try clear hb2); (try clear hk); (try clear hi); (try clear ho0); obtain ⟨Ao18, co18, eo18⟩ := Kd.R_slice HO348.out; subst eo18) | ((with_reducible refine gate_callee (f := 26) rfl ?_); refine goesL_ (some 58) rfl rfl Try.func26 (by kernel_rfl) rfl #[.slice Ao18 t343.length co18, .int .i64 t344, .int .i64 t345, .int .i64 t346] rfl (by (try simp only [List.map_toArray, List.map_cons, List.map_nil]); first | done | rfl | (simp only [List.length_drop, List.length_take]; rfl)) ?_; (with_reducible refine (impl_StopTick.calls k _ _ t343 t344 t345 t346 t349 t350 _ ?side1 ?side2 A5.out).mono ?_); (case side1 => repeat (first | exact (Kd.R_reads' HO348.out).2.2 | (with_reducible refine Kd.C_alloc ?_ _) | (with_reducible refine Kd.C_drewN ?_ _) | (with_reducible refine Kd.C_drew ?_))); (case side2 => exact (Kd.R_reads' HO348.out).2.1); rintro e w19 ⟨rfl, hb⟩; refine ⟨_, rfl, ?_⟩; have n0_ := Aside0.mk (Kd.R_below (by (with_reducible repeat (first | apply Kd.R_alloc | apply Kd.R_drewN | apply Kd.R_drew)); exact HO348.out) hb); have n1_ := Aside0.mk (below_step (by repeat (first | (with_reducible first | exact HB.out | apply below_alloc | apply pw_below_drewN | apply below_drew1) | exact HB.out)) hb); clear HO348; clear HB; have HO348 := n0_; have HB := n1_; clear n0_ n1_; (try clear hb); (try clear hb2); (try clear hk); (try clear hi)) | ((with_reducible refine gate_callee (f := 27) rfl ?_); refine goesL_ (some 66) rfl rfl Try.func27 (by kernel_rfl) rfl #[.slice Ao18 t343.length co18, .int .i64 t344, .int .i64 t345, .int .i64 t346] rfl (by (try simp only [List.map_toArray, List.map_cons, List.map_nil]); first | done | rfl | (simp only [List.length_drop, List.length_take]; rfl)) ?_; (with_reducible refine (spec_StopTick.calls k _ _ t343 t344 t345 t346 t351 t352 _ ?side1 ?side2 A6.out).mono ?_); (case side1 => repeat (first | exact (Kd.R_reads' HO348.out).2.2 | (with_reducible refine Kd.C_alloc ?_ _) | (with_reducible refine Kd.C_drewN ?_ _) | (with_reducible refine Kd.C_drew ?_))); (case side2 => exact (Kd.R_reads' HO348.out).2.1); rintro e w20 ⟨rfl, hb⟩; refine ⟨_, rfl, ?_⟩; have n0_ := Aside0.mk (Kd.R_below (by (with_reducible repeat (first | apply Kd.R_alloc | apply Kd.R_drewN | apply Kd.R_drew)); exact HO348.out) hb); have n1_ := Aside0.mk (below_step (by repeat (first | (with_reducible first | exact HB.out | apply below_alloc | apply pw_below_drewN | apply below_drew1) | exact HB.out)) hb); clear HO348; clear HB; have HO348 := n0_; have HB := n1_; clear n0_ n1_; (try clear hb); (try clear hb2); (try clear hk); (try clear hi)) | ((with_reducible refine gate_callee (f := 28) rfl ?_); refine goesL_ (some 71) rfl rfl Try.func28 (by kernel_rfl) rfl #[.slice A0 l0.length c0] rfl (by (try simp only [List.map_toArray, List.map_cons, List.map_nil]); first | done | rfl | (simp only [List.length_drop, List.length_take]; rfl)) ?_; (with_reducible refine (spec_DrawStoppedModules.calls k _ _ l0 t353 t354 t355 t356 _ ?side1 ?side2 A7.out).mono ?_); (case side1 => repeat (first | exact HR0.out | exact (Kd.C_below HR0.out HB.out) | (with_reducible refine Kd.C_alloc ?_ _) | (with_reducible refine Kd.C_drewN ?_ _) | (with_reducible refine Kd.C_drew ?_))); (case side2 => exact HC0.out); rintro e w21 ⟨v357, rfl, ho0, hb⟩; refine ⟨_, rfl, ?_⟩; have n0_ := Aside0.mk (Kd.R_elder' (by (with_reducible repeat (first | apply Kd.R_alloc | apply Kd.R_drewN | apply Kd.R_drew)); exact HO348.out) (Kd.R_base ho0) hb); have n1_ := Aside0.mk (Kd.R_lower (Kd.R_new' ho0 (Kd.R_lt (by (with_reducible repeat (first | apply Kd.R_alloc | apply Kd.R_drewN | apply Kd.R_drew)); exact HO348.out))) (below_size (by repeat (first | (with_reducible first | exact HB.out | apply below_alloc | apply pw_below_drewN | apply below_drew1) | exact HB.out)))); have n2_ := Aside0.mk (below_step (by repeat (first | (with_reducible first | exact HB.out | apply below_alloc | apply pw_below_drewN | apply below_drew1) | exact HB.out)) hb); clear HO348; clear HB; have HO348 := n0_; have HO358 := n1_; have HB := n2_; clear n0_ n1_ n2_; (try clear hb); (try clear hb2); (try clear hk); (try clear hi); (try clear ho0); obtain ⟨Ao22, co22, eo22⟩ := Kd.R_slice HO358.out; subst eo22) | ((with_reducible refine gate_callee (f := 19) rfl ?_); refine goesL_ (some 81) rfl rfl Try.func19 (by kernel_rfl) rfl #[.slice Ao22 t353.length co22, .int .i64 t354, .int .i64 t355, .int .i64 t356] rfl (by (try simp only [List.map_toArray, List.map_cons, List.map_nil]); first | done | rfl | (simp only [List.length_drop, List.length_take]; rfl)) ?_; (with_reducible refine (impl_StoppedModules.calls k _ _ t353 t354 t355 t356 t359 t360 _ ?side1 ?side2 A8.out).mono ?_); (case side1 => repeat (first | exact (Kd.R_reads' HO358.out).2.2 | (with_reducible refine Kd.C_alloc ?_ _) | (with_reducible refine Kd.C_drewN ?_ _) | (with_reducible refine Kd.C_drew ?_))); (case side2 => exact (Kd.R_reads' HO358.out).2.1); rintro e w23 ⟨v361, rfl, ho0, hb⟩; refine ⟨_, rfl, ?_⟩; have n0_ := Aside0.mk (Kd.R_below (by (with_reducible repeat (first | apply Kd.R_alloc | apply Kd.R_drewN | apply Kd.R_drew)); exact HO348.out) hb); have n1_ := Aside0.mk (Kd.R_below (by (with_reducible repeat (first | apply Kd.R_alloc | apply Kd.R_drewN | apply Kd.R_drew)); exact HO358.out) hb); have n2_ := Aside0.mk (Kd.R_lower ho0 (below_size (by repeat (first | (with_reducible first | exact HB.out | apply below_alloc | apply pw_below_drewN | apply below_drew1) | exact HB.out)))); have n3_ := Aside0.mk (below_step (by repeat (first | (with_reducible first | exact HB.out | apply below_alloc | apply pw_below_drewN | apply below_drew1) | exact HB.out)) hb); clear HO348; clear HO358; clear HB; have HO348 := n0_; have HO358 := n1_; have HO362 := n2_; have HB := n3_; clear n0_ n1_ n2_ n3_; (try clear hb); (try clear hb2); (try clear hk); (try clear hi); (try clear ho0)) | ((with_reducible refine gate_callee (f := 18) rfl ?_); refine goesL_ (some 89) rfl rfl Try.func18 (by kernel_rfl) rfl #[.slice Ao22 t353.length co22, .int .i64 t354, .int .i64 t355, .int .i64 t356] rfl (by (try simp only [List.map_toArray, List.map_cons, List.map_nil]); first | done | rfl | (simp only [List.length_drop, List.length_take]; rfl)) ?_; (with_reducible refine (spec_StoppedModules.calls k _ _ t353 t354 t355 t356 t363 t364 _ ?side1 ?side2 A9.out).mono ?_); (case side1 => repeat (first | exact (Kd.R_reads' HO358.out).2.2 | (with_reducible refine Kd.C_alloc ?_ _) | (with_reducible refine Kd.C_drewN ?_ _) | (with_reducible refine Kd.C_drew ?_))); (case side2 => exact (Kd.R_reads' HO358.out).2.1); rintro e w24 ⟨v365, rfl, ho0, hb⟩; refine ⟨_, rfl, ?_⟩; have n0_ := Aside0.mk (Kd.R_below (by (with_reducible repeat (first | apply Kd.R_alloc | apply Kd.R_drewN | apply Kd.R_drew)); exact HO348.out) hb); have n1_ := Aside0.mk (Kd.R_below (by (with_reducible repeat (first | apply Kd.R_alloc | apply Kd.R_drewN | apply Kd.R_drew)); exact HO358.out) hb); have n2_ := Aside0.mk (Kd.R_elder' (by (with_reducible repeat (first | apply Kd.R_alloc | apply Kd.R_drewN | apply Kd.R_drew)); exact HO362.out) (Kd.R_base ho0) hb); have n3_ := Aside0.mk (Kd.R_lower (Kd.R_new' ho0 (Kd.R_lt (by (with_reducible repeat (first | apply Kd.R_alloc | apply Kd.R_drewN | apply Kd.R_drew)); exact HO362.out))) (below_size (by repeat (first | (with_reducible first | exact HB.out | apply below_alloc | apply pw_below_drewN | apply below_drew1) | exact HB.out)))); have n4_ := Aside0.mk (below_step (by repeat (first | (with_reducible first | exact HB.out | apply below_alloc | apply pw_below_drewN | apply below_drew1) | exact HB.out)) hb); clear HO348; clear HO358; clear HO362; clear HB; have HO348 := n0_; have HO358 := n1_; have HO362 := n2_; have HO366 := n3_; have HB := n4_; clear n0_ n1_ n2_ n3_ n4_; (try clear hb); (try clear hb2); (try clear hk); (try clear hi); (try clear ho0)) | ((with_reducible refine gate_callee (f := 29) rfl ?_); refine goesL_ (some 94) rfl rfl Try.func29 (by kernel_rfl) rfl #[.slice A0 l0.length c0] rfl (by (try simp only [List.map_toArray, List.map_cons, List.map_nil]); first | done | rfl | (simp only [List.length_drop, List.length_take]; rfl)) ?_; (with_reducible refine (spec_DrawGreatestHop.calls k _ _ l0 t367 t368 _ ?side1 ?side2 A10.out).mono ?_); (case side1 => repeat (first | exact HR0.out | exact (Kd.C_below HR0.out HB.out) | (with_reducible refine Kd.C_alloc ?_ _) | (with_reducible refine Kd.C_drewN ?_ _) | (with_reducible refine Kd.C_drew ?_))); (case side2 => exact HC0.out); rintro e w25 ⟨v369, rfl, ho0, hb⟩; refine ⟨_, rfl, ?_⟩; have n0_ := Aside0.mk (Kd.R_elder' (by (with_reducible repeat (first | apply Kd.R_alloc | apply Kd.R_drewN | apply Kd.R_drew)); exact HO348.out) (Kd.R_base ho0) hb); have n1_ := Aside0.mk (Kd.R_elder' (by (with_reducible repeat (first | apply Kd.R_alloc | apply Kd.R_drewN | apply Kd.R_drew)); exact HO358.out) (Kd.R_base ho0) hb); have n2_ := Aside0.mk (Kd.R_below (by (with_reducible repeat (first | apply Kd.R_alloc | apply Kd.R_drewN | apply Kd.R_drew)); exact HO362.out) hb); have n3_ := Aside0.mk (Kd.R_below (by (with_reducible repeat (first | apply Kd.R_alloc | apply Kd.R_drewN | apply Kd.R_drew)); exact HO366.out) hb); have n4_ := Aside0.mk (Kd.R_lower (Kd.R_new' (Kd.R_new' ho0 (Kd.R_lt (by (with_reducible repeat (first | apply Kd.R_alloc | apply Kd.R_drewN | apply Kd.R_drew)); exact HO348.out))) (Kd.R_lt (by (with_reducible repeat (first | apply Kd.R_alloc | apply Kd.R_drewN | apply Kd.R_drew)); exact HO358.out))) (below_size (by repeat (first | (with_reducible first | exact HB.out | apply below_alloc | apply pw_below_drewN | apply below_drew1) | exact HB.out)))); have n5_ := Aside0.mk (below_step (by repeat (first | (with_reducible first | exact HB.out | apply below_alloc | apply pw_below_drewN | apply below_drew1) | exact HB.out)) hb); clear HO348; clear HO358; clear HO362; clear HO366; clear HB; have HO348 := n0_; have HO358 := n1_; have HO362 := n2_; have HO366 := n3_; have HO370 := n4_; have HB := n5_; clear n0_ n1_ n2_ n3_ n4_ n5_; (try clear hb); (try clear hb2); (try clear hk); (try clear hi); (try clear ho0); obtain ⟨Ao26, co26, eo26⟩ := Kd.R_slice HO370.out; subst eo26) | ((with_reducible refine gate_callee (f := 17) rfl ?_); refine goesL_ (some 100) rfl rfl Try.func17 (by kernel_rfl) rfl #[.slice Ao26 t367.length co26, .int .i64 t368] rfl (by (try simp only [List.map_toArray, List.map_cons, List.map_nil]); first | done | rfl | (simp only [List.length_drop, List.length_take]; rfl)) ?_; (with_reducible refine (impl_GreatestHop.calls k _ _ t367 t368 t371 t372 _ ?side1 ?side2 A11.out).mono ?_); (case side1 => repeat (first | exact (Kd.R_reads' HO370.out).2.2 | (with_reducible refine Kd.C_alloc ?_ _) | (with_reducible refine Kd.C_drewN ?_ _) | (with_reducible refine Kd.C_drew ?_))); (case side2 => exact (Kd.R_reads' HO370.out).2.1); rintro e w27 ⟨rfl, hb⟩; refine ⟨_, rfl, ?_⟩; have n0_ := Aside0.mk (Kd.R_below (by (with_reducible repeat (first | apply Kd.R_alloc | apply Kd.R_drewN | apply Kd.R_drew)); exact HO348.out) hb); have n1_ := Aside0.mk (Kd.R_below (by (with_reducible repeat (first | apply Kd.R_alloc | apply Kd.R_drewN | apply Kd.R_drew)); exact HO358.out) hb); have n2_ := Aside0.mk (Kd.R_below (by (with_reducible repeat (first | apply Kd.R_alloc | apply Kd.R_drewN | apply Kd.R_drew)); exact HO362.out) hb); have n3_ := Aside0.mk (Kd.R_below (by (with_reducible repeat (first | apply Kd.R_alloc | apply Kd.R_drewN | apply Kd.R_drew)); exact HO366.out) hb); have n4_ := Aside0.mk (Kd.R_below (by (with_reducible repeat (first | apply Kd.R_alloc | apply Kd.R_drewN | apply Kd.R_drew)); exact HO370.out) hb); have n5_ := Aside0.mk (below_step (by repeat (first | (with_reducible first | exact HB.out | apply below_alloc | apply pw_below_drewN | apply below_drew1) | exact HB.out)) hb); clear HO348; clear HO358; clear HO362; clear HO366; clear HO370; clear HB; have HO348 := n0_; have HO358 := n1_; have HO362 := n2_; have HO366 := n3_; have HO370 := n4_; have HB := n5_; clear n0_ n1_ n2_ n3_ n4_ n5_; (try clear hb); (try clear hb2); (try clear hk); (try clear hi)) | ((with_reducible refine gate_callee (f := 16) rfl ?_); refine goesL_ (some 106) rfl rfl Try.func16 (by kernel_rfl) rfl #[.slice Ao26 t367.length co26, .int .i64 t368] rfl (by (try simp only [List.map_toArray, List.map_cons, List.map_nil]); first | done | rfl | (simp only [List.length_drop, List.length_take]; rfl)) ?_; (with_reducible refine (spec_GreatestHop.calls k _ _ t367 t368 t373 t374 _ ?side1 ?side2 A12.out).mono ?_); (case side1 => repeat (first | exact (Kd.R_reads' HO370.out).2.2 | (with_reducible refine Kd.C_alloc ?_ _) | (with_reducible refine Kd.C_drewN ?_ _) | (with_reducible refine Kd.C_drew ?_))); (case side2 => exact (Kd.R_reads' HO370.out).2.1); rintro e w28 ⟨rfl, hb⟩; refine ⟨_, rfl, ?_⟩; have n0_ := Aside0.mk (Kd.R_below (by (with_reducible repeat (first | apply Kd.R_alloc | apply Kd.R_drewN | apply Kd.R_drew)); exact HO348.out) hb); have n1_ := Aside0.mk (Kd.R_below (by (with_reducible repeat (first | apply Kd.R_alloc | apply Kd.R_drewN | apply Kd.R_drew)); exact HO358.out) hb); have n2_ := Aside0.mk (Kd.R_below (by (with_reducible repeat (first | apply Kd.R_alloc | apply Kd.R_drewN | apply Kd.R_drew)); exact HO362.out) hb); have n3_ := Aside0.mk (Kd.R_below (by (with_reducible repeat (first | apply Kd.R_alloc | apply Kd.R_drewN | apply Kd.R_drew)); exact HO366.out) hb); have n4_ := Aside0.mk (Kd.R_below (by (with_reducible repeat (first | apply Kd.R_alloc | apply Kd.R_drewN | apply Kd.R_drew)); exact HO370.out) hb); have n5_ := Aside0.mk (below_step (by repeat (first | (with_reducible first | exact HB.out | apply below_alloc | apply pw_below_drewN | apply below_drew1) | exact HB.out)) hb); clear HO348; clear HO358; clear HO362; clear HO366; clear HO370; clear HB; have HO348 := n0_; have HO358 := n1_; have HO362 := n2_; have HO366 := n3_; have HO370 := n4_; have HB := n5_; clear n0_ n1_ n2_ n3_ n4_ n5_; (try clear hb); (try clear hb2); (try clear hk); (try clear hi)) | ((with_reducible refine gate_callee (f := 30) rfl ?_); refine goesL_ (some 111) rfl rfl Try.func30 (by kernel_rfl) rfl #[.slice A0 l0.length c0] rfl (by (try simp only [List.map_toArray, List.map_cons, List.map_nil]); first | done | rfl | (simp only [List.length_drop, List.length_take]; rfl)) ?_; (with_reducible refine (spec_DrawLatestSending.calls k _ _ l0 t375 t376 t377 t378 _ ?side1 ?side2 A13.out).mono ?_); (case side1 => repeat (first | exact HR0.out | exact (Kd.C_below HR0.out HB.out) | (with_reducible refine Kd.C_alloc ?_ _) | (with_reducible refine Kd.C_drewN ?_ _) | (with_reducible refine Kd.C_drew ?_))); (case side2 => exact HC0.out); rintro e w29 ⟨v379, rfl, ho0, hb⟩; refine ⟨_, rfl, ?_⟩; have n0_ := Aside0.mk (Kd.R_elder' (by (with_reducible repeat (first | apply Kd.R_alloc | apply Kd.R_drewN | apply Kd.R_drew)); exact HO348.out) (Kd.R_base ho0) hb); have n1_ := Aside0.mk (Kd.R_elder' (by (with_reducible repeat (first | apply Kd.R_alloc | apply Kd.R_drewN | apply Kd.R_drew)); exact HO358.out) (Kd.R_base ho0) hb); have n2_ := Aside0.mk (Kd.R_below (by (with_reducible repeat (first | apply Kd.R_alloc | apply Kd.R_drewN | apply Kd.R_drew)); exact HO362.out) hb); have n3_ := Aside0.mk (Kd.R_below (by (with_reducible repeat (first | apply Kd.R_alloc | apply Kd.R_drewN | apply Kd.R_drew)); exact HO366.out) hb); have n4_ := Aside0.mk (Kd.R_elder' (by (with_reducible repeat (first | apply Kd.R_alloc | apply Kd.R_drewN | apply Kd.R_drew)); exact HO370.out) (Kd.R_base ho0) hb); have n5_ := Aside0.mk (Kd.R_lower (Kd.R_new' (Kd.R_new' (Kd.R_new' ho0 (Kd.R_lt (by (with_reducible repeat (first | apply Kd.R_alloc | apply Kd.R_drewN | apply Kd.R_drew)); exact HO348.out))) (Kd.R_lt (by (with_reducible repeat (first | apply Kd.R_alloc | apply Kd.R_drewN | apply Kd.R_drew)); exact HO358.out))) (Kd.R_lt (by (with_reducible repeat (first | apply Kd.R_alloc | apply Kd.R_drewN | apply Kd.R_drew)); exact HO370.out))) (below_size (by repeat (first | (with_reducible first | exact HB.out | apply below_alloc | apply pw_below_drewN | apply below_drew1) | exact HB.out)))); have n6_ := Aside0.mk (below_step (by repeat (first | (with_reducible first | exact HB.out | apply below_alloc | apply pw_below_drewN | apply below_drew1) | exact HB.out)) hb); clear HO348; clear HO358; clear HO362; clear HO366; clear HO370; clear HB; have HO348 := n0_; have HO358 := n1_; have HO362 := n2_; have HO366 := n3_; have HO370 := n4_; have HO380 := n5_; have HB := n6_; clear n0_ n1_ n2_ n3_ n4_ n5_ n6_; (try clear hb); (try clear hb2); (try clear hk); (try clear hi); (try clear ho0); obtain ⟨Ao30, co30, eo30⟩ := Kd.R_slice HO380.out; subst eo30) | ((with_reducible refine gate_callee (f := 31) rfl ?_); refine goesL_ (some 121) rfl rfl Try.func31 (by kernel_rfl) rfl #[.slice Ao30 t375.length co30, .int .i64 t376, .int .i64 t377, .int .i64 t378] rfl (by (try simp only [List.map_toArray, List.map_cons, List.map_nil]); first | done | rfl | (simp only [List.length_drop, List.length_take]; rfl)) ?_; (with_reducible refine (impl_LatestSending.calls k _ _ t375 t376 t377 t378 t381 t382 _ ?side1 ?side2 A14.out).mono ?_); (case side1 => repeat (first | exact (Kd.R_reads' HO380.out).2.2 | (with_reducible refine Kd.C_alloc ?_ _) | (with_reducible refine Kd.C_drewN ?_ _) | (with_reducible refine Kd.C_drew ?_))); (case side2 => exact (Kd.R_reads' HO380.out).2.1); rintro e w31 ⟨rfl, hb⟩; refine ⟨_, rfl, ?_⟩; have n0_ := Aside0.mk (Kd.R_below (by (with_reducible repeat (first | apply Kd.R_alloc | apply Kd.R_drewN | apply Kd.R_drew)); exact HO348.out) hb); have n1_ := Aside0.mk (Kd.R_below (by (with_reducible repeat (first | apply Kd.R_alloc | apply Kd.R_drewN | apply Kd.R_drew)); exact HO358.out) hb); have n2_ := Aside0.mk (Kd.R_below (by (with_reducible repeat (first | apply Kd.R_alloc | apply Kd.R_drewN | apply Kd.R_drew)); exact HO362.out) hb); have n3_ := Aside0.mk (Kd.R_below (by (with_reducible repeat (first | apply Kd.R_alloc | apply Kd.R_drewN | apply Kd.R_drew)); exact HO366.out) hb); have n4_ := Aside0.mk (Kd.R_below (by (with_reducible repeat (first | apply Kd.R_alloc | apply Kd.R_drewN | apply Kd.R_drew)); exact HO370.out) hb); have n5_ := Aside0.mk (Kd.R_below (by (with_reducible repeat (first | apply Kd.R_alloc | apply Kd.R_drewN | apply Kd.R_drew)); exact HO380.out) hb); have n6_ := Aside0.mk (below_step (by repeat (first | (with_reducible first | exact HB.out | apply below_alloc | apply pw_below_drewN | apply below_drew1) | exact HB.out)) hb); clear HO348; clear HO358; clear HO362; clear HO366; clear HO370; clear HO380; clear HB; have HO348 := n0_; have HO358 := n1_; have HO362 := n2_; have HO366 := n3_; have HO370 := n4_; have HO380 := n5_; have HB := n6_; clear n0_ n1_ n2_ n3_ n4_ n5_ n6_; (try clear hb); (try clear hb2); (try clear hk); (try clear hi)) | ((with_reducible refine gate_callee (f := 32) rfl ?_); refine goesL_ (some 129) rfl rfl Try.func32 (by kernel_rfl) rfl #[.slice Ao30 t375.length co30, .int .i64 t376, .int .i64 t377, .int .i64 t378] rfl (by (try simp only [List.map_toArray, List.map_cons, List.map_nil]); first | done | rfl | (simp only [List.length_drop, List.length_take]; rfl)) ?_; (with_reducible refine (spec_LatestSending.calls k _ _ t375 t376 t377 t378 t383 t384 _ ?side1 ?side2 A15.out).mono ?_); (case side1 => repeat (first | exact (Kd.R_reads' HO380.out).2.2 | (with_reducible refine Kd.C_alloc ?_ _) | (with_reducible refine Kd.C_drewN ?_ _) | (with_reducible refine Kd.C_drew ?_))); (case side2 => exact (Kd.R_reads' HO380.out).2.1); rintro e w32 ⟨rfl, hb⟩; refine ⟨_, rfl, ?_⟩; have n0_ := Aside0.mk (Kd.R_below (by (with_reducible repeat (first | apply Kd.R_alloc | apply Kd.R_drewN | apply Kd.R_drew)); exact HO348.out) hb); have n1_ := Aside0.mk (Kd.R_below (by (with_reducible repeat (first | apply Kd.R_alloc | apply Kd.R_drewN | apply Kd.R_drew)); exact HO358.out) hb); have n2_ := Aside0.mk (Kd.R_below (by (with_reducible repeat (first | apply Kd.R_alloc | apply Kd.R_drewN | apply Kd.R_drew)); exact HO362.out) hb); have n3_ := Aside0.mk (Kd.R_below (by (with_reducible repeat (first | apply Kd.R_alloc | apply Kd.R_drewN | apply Kd.R_drew)); exact HO366.out) hb); have n4_ := Aside0.mk (Kd.R_below (by (with_reducible repeat (first | apply Kd.R_alloc | apply Kd.R_drewN | apply Kd.R_drew)); exact HO370.out) hb); have n5_ := Aside0.mk (Kd.R_below (by (with_reducible repeat (first | apply Kd.R_alloc | apply Kd.R_drewN | apply Kd.R_drew)); exact HO380.out) hb); have n6_ := Aside0.mk (below_step (by repeat (first | (with_reducible first | exact HB.out | apply below_alloc | apply pw_below_drewN | apply below_drew1) | exact HB.out)) hb); clear HO348; clear HO358; clear HO362; clear HO366; clear HO370; clear HO380; clear HB; have HO348 := n0_; have HO358 := n1_; have HO362 := n2_; have HO366 := n3_; have HO370 := n4_; have HO380 := n5_; have HB := n6_; clear n0_ n1_ n2_ n3_ n4_ n5_ n6_; (try clear hb); (try clear hb2); (try clear hk); (try clear hi)))
    (try simp only [Act.put, List.setIfInBounds_toArray, List.set_cons_zero, List.set_cons_succ])
    go_cut [170] (fun v170 wc => ∃ (kq : Nat) (x170_15 : Bool), v170 = .bool x170_15 ∧ Aside0 (laws_FnHops.j0 kq t343 t344 t345 t346 t349 t350 t353 t354 t355 t356 t359 t360 t367 t368 t371 t372 t375 t376 t377 t378 t381 t382 x170_15 = some r) ∧ Aside0 (kq ≤ k) ∧ Aside0 (Kd.R k63 63 wc w.heap.size (fun k_ => some k_ ≠ ((.slice Ao22 t353.length co22) : Value).ownBlock ∧ some k_ ≠ ((.slice Ao26 t367.length co26) : Value).ownBlock ∧ some k_ ≠ ((.slice Ao30 t375.length co30) : Value).ownBlock) (.slice Ao18 t343.length co18) t343) ∧ Aside0 (Kd.R k63 63 wc w.heap.size (fun k_ => some k_ ≠ ((.slice Ao18 t343.length co18) : Value).ownBlock ∧ some k_ ≠ ((.slice Ao26 t367.length co26) : Value).ownBlock ∧ some k_ ≠ ((.slice Ao30 t375.length co30) : Value).ownBlock) (.slice Ao22 t353.length co22) t353) ∧ Aside0 (Kd.R (Kd.int .i64) 2 wc w.heap.size (fun _ => True) v361 t359) ∧ Aside0 (Kd.R k63 63 wc w.heap.size (fun k_ => some k_ ≠ ((.slice Ao18 t343.length co18) : Value).ownBlock ∧ some k_ ≠ ((.slice Ao22 t353.length co22) : Value).ownBlock ∧ some k_ ≠ ((.slice Ao30 t375.length co30) : Value).ownBlock) (.slice Ao26 t367.length co26) t367) ∧ Aside0 (Kd.R k63 63 wc w.heap.size (fun k_ => some k_ ≠ ((.slice Ao18 t343.length co18) : Value).ownBlock ∧ some k_ ≠ ((.slice Ao22 t353.length co22) : Value).ownBlock ∧ some k_ ≠ ((.slice Ao26 t367.length co26) : Value).ownBlock) (.slice Ao30 t375.length co30) t375) ∧ Aside0 (Below w.heap.size w wc))
    case first =>
      have H := HC16.out
      clear HC16
      by_cases c33 : t350 = t352
      · as_aux_lemma =>
        rw [if_pos c33] at H
        have c33b0 : (t350 == t352) = true := beq_iff_eq.mpr c33
        have c33b1 : (t350 != t352) = false := bne_eq_false_iff_eq.mpr c33
        clear c33
        (first | rw [c33b0] | (simp only [i64_w, i32_w]; rw [c33b0]) | skip)
        by_cases c34 : t349 = t351
        · rw [if_pos c34] at H
          have c34b0 : (t349 == t351) = true := beq_iff_eq.mpr c34
          have c34b1 : (t349 != t351) = false := bne_eq_false_iff_eq.mpr c34
          clear c34
          by_cases c35 : t360 = t364
          · rw [if_pos c35] at H
            have c35b0 : (t360 == t364) = true := beq_iff_eq.mpr c35
            have c35b1 : (t360 != t364) = false := bne_eq_false_iff_eq.mpr c35
            clear c35
            replace H := Option.bind_eq_some_iff.mp H
            obtain ⟨t385, A360, H⟩ := H
            replace H : (if t385 = true then (if t372 = t374 then (if t371 = t373 then (if t382 = t384 then (laws_FnHops.j0 k t343 t344 t345 t346 t349 t350 t353 t354 t355 t356 t359 t360 t367 t368 t371 t372 t375 t376 t377 t378 t381 t382 (t381 != t383)) else (laws_FnHops.j0 k t343 t344 t345 t346 t349 t350 t353 t354 t355 t356 t359 t360 t367 t368 t371 t372 t375 t376 t377 t378 t381 t382 true)) else (laws_FnHops.j0 k t343 t344 t345 t346 t349 t350 t353 t354 t355 t356 t359 t360 t367 t368 t371 t372 t375 t376 t377 t378 t381 t382 true)) else (laws_FnHops.j0 k t343 t344 t345 t346 t349 t350 t353 t354 t355 t356 t359 t360 t367 t368 t371 t372 t375 t376 t377 t378 t381 t382 true)) else (laws_FnHops.j0 k t343 t344 t345 t346 t349 t350 t353 t354 t355 t356 t359 t360 t367 t368 t371 t372 t375 t376 t377 t378 t381 t382 true)) = some r := H
            have A36 := Aside0.mk A360
            clear A360
            by_cases c37 : t385 = true
            · subst c37
              have H1 : (if t372 = t374 then (if t371 = t373 then (if t382 = t384 then (laws_FnHops.j0 k t343 t344 t345 t346 t349 t350 t353 t354 t355 t356 t359 t360 t367 t368 t371 t372 t375 t376 t377 t378 t381 t382 (t381 != t383)) else (laws_FnHops.j0 k t343 t344 t345 t346 t349 t350 t353 t354 t355 t356 t359 t360 t367 t368 t371 t372 t375 t376 t377 t378 t381 t382 true)) else (laws_FnHops.j0 k t343 t344 t345 t346 t349 t350 t353 t354 t355 t356 t359 t360 t367 t368 t371 t372 t375 t376 t377 t378 t381 t382 true)) else (laws_FnHops.j0 k t343 t344 t345 t346 t349 t350 t353 t354 t355 t356 t359 t360 t367 t368 t371 t372 t375 t376 t377 t378 t381 t382 true)) = some r := by rw [if_pos rfl] at H; exact H
              clear H
              have H := H1
              clear H1
              by_cases c38 : t372 = t374
              · rw [if_pos c38] at H
                have c38b0 : (t372 == t374) = true := beq_iff_eq.mpr c38
                have c38b1 : (t372 != t374) = false := bne_eq_false_iff_eq.mpr c38
                clear c38
                by_cases c39 : t371 = t373
                · rw [if_pos c39] at H
                  have c39b0 : (t371 == t373) = true := beq_iff_eq.mpr c39
                  have c39b1 : (t371 != t373) = false := bne_eq_false_iff_eq.mpr c39
                  clear c39
                  by_cases c40 : t382 = t384
                  · rw [if_pos c40] at H
                    have c40b0 : (t382 == t384) = true := beq_iff_eq.mpr c40
                    have c40b1 : (t382 != t384) = false := bne_eq_false_iff_eq.mpr c40
                    clear c40
                    have H' := Aside0.mk H
                    clear H
                    obtain ⟨Ao41, co41, eo41⟩ := Kd.R_slice HO362.out
                    subst eo41
                    obtain ⟨Ao42, co42, eo42⟩ := Kd.R_slice HO366.out
                    subst eo42
                    go_wp2_with (first | (go_at_call 33; (with_reducible refine (laws_likeInts.calls k _ _ t359 _ _ t363 true _ ?side1 ?side2 ?side3 ?side4 A36.out).mono ?_); (case side1 => repeat (first | exact (Kd.R_reads' HO362.out).2.2 | (with_reducible refine Kd.C_alloc ?_ _) | (with_reducible refine Kd.C_drewN ?_ _) | (with_reducible refine Kd.C_drew ?_))); (case side2 => exact (Kd.R_reads' HO362.out).2.1); (case side3 => repeat (first | exact (Kd.R_reads' HO366.out).2.2 | (with_reducible refine Kd.C_alloc ?_ _) | (with_reducible refine Kd.C_drewN ?_ _) | (with_reducible refine Kd.C_drew ?_))); (case side4 => exact (Kd.R_reads' HO366.out).2.1); rintro e w' ⟨rfl, ⟨nd, rfl⟩⟩))
                    go_meet
                    case rel => exact ⟨_, ((t381 != t383)), (by first | rfl | (simp; done) | (simp [*]; done)), H', ⟨by first | omega | exact Nat.le_refl _⟩, ⟨by (with_reducible repeat (first | apply Kd.R_alloc | apply Kd.R_drewN | apply Kd.R_drew)); exact Kd.R_mono HO348.out (fun _ hk => ⟨hk.1.1.2, ⟨hk.1.2, hk.2⟩⟩)⟩, ⟨by (with_reducible repeat (first | apply Kd.R_alloc | apply Kd.R_drewN | apply Kd.R_drew)); exact Kd.R_mono HO358.out (fun _ hk => ⟨hk.1.1.2, ⟨hk.1.2, hk.2⟩⟩)⟩, ⟨by (with_reducible repeat (first | apply Kd.R_alloc | apply Kd.R_drewN | apply Kd.R_drew)); exact Kd.R_mono HO362.out (fun _ hk => trivial)⟩, ⟨by (with_reducible repeat (first | apply Kd.R_alloc | apply Kd.R_drewN | apply Kd.R_drew)); exact Kd.R_mono HO370.out (fun _ hk => ⟨hk.1.1.2, ⟨hk.1.2, hk.2⟩⟩)⟩, ⟨by (with_reducible repeat (first | apply Kd.R_alloc | apply Kd.R_drewN | apply Kd.R_drew)); exact Kd.R_mono HO380.out (fun _ hk => ⟨hk.1.1.2, ⟨hk.1.2, hk.2⟩⟩)⟩, ⟨by repeat (first | (with_reducible first | exact HB.out | apply below_alloc | apply pw_below_drewN | apply below_drew1) | exact HB.out)⟩⟩
                  · rw [if_neg c40] at H
                    have c40b0 : (t382 == t384) = false := beq_eq_false_iff_ne.mpr c40
                    have c40b1 : (t382 != t384) = true := bne_iff_ne.mpr c40
                    have H' := Aside0.mk H
                    clear H
                    obtain ⟨Ao43, co43, eo43⟩ := Kd.R_slice HO362.out
                    subst eo43
                    obtain ⟨Ao44, co44, eo44⟩ := Kd.R_slice HO366.out
                    subst eo44
                    go_wp2_with (first | (go_at_call 33; (with_reducible refine (laws_likeInts.calls k _ _ t359 _ _ t363 true _ ?side1 ?side2 ?side3 ?side4 A36.out).mono ?_); (case side1 => repeat (first | exact (Kd.R_reads' HO362.out).2.2 | (with_reducible refine Kd.C_alloc ?_ _) | (with_reducible refine Kd.C_drewN ?_ _) | (with_reducible refine Kd.C_drew ?_))); (case side2 => exact (Kd.R_reads' HO362.out).2.1); (case side3 => repeat (first | exact (Kd.R_reads' HO366.out).2.2 | (with_reducible refine Kd.C_alloc ?_ _) | (with_reducible refine Kd.C_drewN ?_ _) | (with_reducible refine Kd.C_drew ?_))); (case side4 => exact (Kd.R_reads' HO366.out).2.1); rintro e w' ⟨rfl, ⟨nd, rfl⟩⟩))
                    go_meet
                    case rel => exact ⟨_, (true), (by first | rfl | (simp; done) | (simp [*]; done)), H', ⟨by first | omega | exact Nat.le_refl _⟩, ⟨by (with_reducible repeat (first | apply Kd.R_alloc | apply Kd.R_drewN | apply Kd.R_drew)); exact Kd.R_mono HO348.out (fun _ hk => ⟨hk.1.1.2, ⟨hk.1.2, hk.2⟩⟩)⟩, ⟨by (with_reducible repeat (first | apply Kd.R_alloc | apply Kd.R_drewN | apply Kd.R_drew)); exact Kd.R_mono HO358.out (fun _ hk => ⟨hk.1.1.2, ⟨hk.1.2, hk.2⟩⟩)⟩, ⟨by (with_reducible repeat (first | apply Kd.R_alloc | apply Kd.R_drewN | apply Kd.R_drew)); exact Kd.R_mono HO362.out (fun _ hk => trivial)⟩, ⟨by (with_reducible repeat (first | apply Kd.R_alloc | apply Kd.R_drewN | apply Kd.R_drew)); exact Kd.R_mono HO370.out (fun _ hk => ⟨hk.1.1.2, ⟨hk.1.2, hk.2⟩⟩)⟩, ⟨by (with_reducible repeat (first | apply Kd.R_alloc | apply Kd.R_drewN | apply Kd.R_drew)); exact Kd.R_mono HO380.out (fun _ hk => ⟨hk.1.1.2, ⟨hk.1.2, hk.2⟩⟩)⟩, ⟨by repeat (first | (with_reducible first | exact HB.out | apply below_alloc | apply pw_below_drewN | apply below_drew1) | exact HB.out)⟩⟩
                · rw [if_neg c39] at H
                  have c39b0 : (t371 == t373) = false := beq_eq_false_iff_ne.mpr c39
                  have c39b1 : (t371 != t373) = true := bne_iff_ne.mpr c39
                  have H' := Aside0.mk H
                  clear H
                  obtain ⟨Ao45, co45, eo45⟩ := Kd.R_slice HO362.out
                  subst eo45
                  obtain ⟨Ao46, co46, eo46⟩ := Kd.R_slice HO366.out
                  subst eo46
                  go_wp2_with (first | (go_at_call 33; (with_reducible refine (laws_likeInts.calls k _ _ t359 _ _ t363 true _ ?side1 ?side2 ?side3 ?side4 A36.out).mono ?_); (case side1 => repeat (first | exact (Kd.R_reads' HO362.out).2.2 | (with_reducible refine Kd.C_alloc ?_ _) | (with_reducible refine Kd.C_drewN ?_ _) | (with_reducible refine Kd.C_drew ?_))); (case side2 => exact (Kd.R_reads' HO362.out).2.1); (case side3 => repeat (first | exact (Kd.R_reads' HO366.out).2.2 | (with_reducible refine Kd.C_alloc ?_ _) | (with_reducible refine Kd.C_drewN ?_ _) | (with_reducible refine Kd.C_drew ?_))); (case side4 => exact (Kd.R_reads' HO366.out).2.1); rintro e w' ⟨rfl, ⟨nd, rfl⟩⟩))
                  go_meet
                  case rel => exact ⟨_, (true), (by first | rfl | (simp; done) | (simp [*]; done)), H', ⟨by first | omega | exact Nat.le_refl _⟩, ⟨by (with_reducible repeat (first | apply Kd.R_alloc | apply Kd.R_drewN | apply Kd.R_drew)); exact Kd.R_mono HO348.out (fun _ hk => ⟨hk.1.1.2, ⟨hk.1.2, hk.2⟩⟩)⟩, ⟨by (with_reducible repeat (first | apply Kd.R_alloc | apply Kd.R_drewN | apply Kd.R_drew)); exact Kd.R_mono HO358.out (fun _ hk => ⟨hk.1.1.2, ⟨hk.1.2, hk.2⟩⟩)⟩, ⟨by (with_reducible repeat (first | apply Kd.R_alloc | apply Kd.R_drewN | apply Kd.R_drew)); exact Kd.R_mono HO362.out (fun _ hk => trivial)⟩, ⟨by (with_reducible repeat (first | apply Kd.R_alloc | apply Kd.R_drewN | apply Kd.R_drew)); exact Kd.R_mono HO370.out (fun _ hk => ⟨hk.1.1.2, ⟨hk.1.2, hk.2⟩⟩)⟩, ⟨by (with_reducible repeat (first | apply Kd.R_alloc | apply Kd.R_drewN | apply Kd.R_drew)); exact Kd.R_mono HO380.out (fun _ hk => ⟨hk.1.1.2, ⟨hk.1.2, hk.2⟩⟩)⟩, ⟨by repeat (first | (with_reducible first | exact HB.out | apply below_alloc | apply pw_below_drewN | apply below_drew1) | exact HB.out)⟩⟩
              · rw [if_neg c38] at H
                have c38b0 : (t372 == t374) = false := beq_eq_false_iff_ne.mpr c38
                have c38b1 : (t372 != t374) = true := bne_iff_ne.mpr c38
                have H' := Aside0.mk H
                clear H
                obtain ⟨Ao47, co47, eo47⟩ := Kd.R_slice HO362.out
                subst eo47
                obtain ⟨Ao48, co48, eo48⟩ := Kd.R_slice HO366.out
                subst eo48
                go_wp2_with (first | (go_at_call 33; (with_reducible refine (laws_likeInts.calls k _ _ t359 _ _ t363 true _ ?side1 ?side2 ?side3 ?side4 A36.out).mono ?_); (case side1 => repeat (first | exact (Kd.R_reads' HO362.out).2.2 | (with_reducible refine Kd.C_alloc ?_ _) | (with_reducible refine Kd.C_drewN ?_ _) | (with_reducible refine Kd.C_drew ?_))); (case side2 => exact (Kd.R_reads' HO362.out).2.1); (case side3 => repeat (first | exact (Kd.R_reads' HO366.out).2.2 | (with_reducible refine Kd.C_alloc ?_ _) | (with_reducible refine Kd.C_drewN ?_ _) | (with_reducible refine Kd.C_drew ?_))); (case side4 => exact (Kd.R_reads' HO366.out).2.1); rintro e w' ⟨rfl, ⟨nd, rfl⟩⟩))
                go_meet
                case rel => exact ⟨_, (true), (by first | rfl | (simp; done) | (simp [*]; done)), H', ⟨by first | omega | exact Nat.le_refl _⟩, ⟨by (with_reducible repeat (first | apply Kd.R_alloc | apply Kd.R_drewN | apply Kd.R_drew)); exact Kd.R_mono HO348.out (fun _ hk => ⟨hk.1.1.2, ⟨hk.1.2, hk.2⟩⟩)⟩, ⟨by (with_reducible repeat (first | apply Kd.R_alloc | apply Kd.R_drewN | apply Kd.R_drew)); exact Kd.R_mono HO358.out (fun _ hk => ⟨hk.1.1.2, ⟨hk.1.2, hk.2⟩⟩)⟩, ⟨by (with_reducible repeat (first | apply Kd.R_alloc | apply Kd.R_drewN | apply Kd.R_drew)); exact Kd.R_mono HO362.out (fun _ hk => trivial)⟩, ⟨by (with_reducible repeat (first | apply Kd.R_alloc | apply Kd.R_drewN | apply Kd.R_drew)); exact Kd.R_mono HO370.out (fun _ hk => ⟨hk.1.1.2, ⟨hk.1.2, hk.2⟩⟩)⟩, ⟨by (with_reducible repeat (first | apply Kd.R_alloc | apply Kd.R_drewN | apply Kd.R_drew)); exact Kd.R_mono HO380.out (fun _ hk => ⟨hk.1.1.2, ⟨hk.1.2, hk.2⟩⟩)⟩, ⟨by repeat (first | (with_reducible first | exact HB.out | apply below_alloc | apply pw_below_drewN | apply below_drew1) | exact HB.out)⟩⟩
            · replace c37 := Bool.eq_false_iff.mpr c37
              subst c37
              have H1 : (laws_FnHops.j0 k t343 t344 t345 t346 t349 t350 t353 t354 t355 t356 t359 t360 t367 t368 t371 t372 t375 t376 t377 t378 t381 t382 true) = some r := by rw [if_neg (show ¬ (false = true) by decide)] at H; exact H
              clear H
              have H := H1
              clear H1
              have H' := Aside0.mk H
              clear H
              obtain ⟨Ao49, co49, eo49⟩ := Kd.R_slice HO362.out
              subst eo49
              obtain ⟨Ao50, co50, eo50⟩ := Kd.R_slice HO366.out
              subst eo50
              go_wp2_with (first | (go_at_call 33; (with_reducible refine (laws_likeInts.calls k _ _ t359 _ _ t363 false _ ?side1 ?side2 ?side3 ?side4 A36.out).mono ?_); (case side1 => repeat (first | exact (Kd.R_reads' HO362.out).2.2 | (with_reducible refine Kd.C_alloc ?_ _) | (with_reducible refine Kd.C_drewN ?_ _) | (with_reducible refine Kd.C_drew ?_))); (case side2 => exact (Kd.R_reads' HO362.out).2.1); (case side3 => repeat (first | exact (Kd.R_reads' HO366.out).2.2 | (with_reducible refine Kd.C_alloc ?_ _) | (with_reducible refine Kd.C_drewN ?_ _) | (with_reducible refine Kd.C_drew ?_))); (case side4 => exact (Kd.R_reads' HO366.out).2.1); rintro e w' ⟨rfl, ⟨nd, rfl⟩⟩))
              go_meet
              case rel => exact ⟨_, (true), (by first | rfl | (simp; done) | (simp [*]; done)), H', ⟨by first | omega | exact Nat.le_refl _⟩, ⟨by (with_reducible repeat (first | apply Kd.R_alloc | apply Kd.R_drewN | apply Kd.R_drew)); exact Kd.R_mono HO348.out (fun _ hk => ⟨hk.1.1.2, ⟨hk.1.2, hk.2⟩⟩)⟩, ⟨by (with_reducible repeat (first | apply Kd.R_alloc | apply Kd.R_drewN | apply Kd.R_drew)); exact Kd.R_mono HO358.out (fun _ hk => ⟨hk.1.1.2, ⟨hk.1.2, hk.2⟩⟩)⟩, ⟨by (with_reducible repeat (first | apply Kd.R_alloc | apply Kd.R_drewN | apply Kd.R_drew)); exact Kd.R_mono HO362.out (fun _ hk => trivial)⟩, ⟨by (with_reducible repeat (first | apply Kd.R_alloc | apply Kd.R_drewN | apply Kd.R_drew)); exact Kd.R_mono HO370.out (fun _ hk => ⟨hk.1.1.2, ⟨hk.1.2, hk.2⟩⟩)⟩, ⟨by (with_reducible repeat (first | apply Kd.R_alloc | apply Kd.R_drewN | apply Kd.R_drew)); exact Kd.R_mono HO380.out (fun _ hk => ⟨hk.1.1.2, ⟨hk.1.2, hk.2⟩⟩)⟩, ⟨by repeat (first | (with_reducible first | exact HB.out | apply below_alloc | apply pw_below_drewN | apply below_drew1) | exact HB.out)⟩⟩
          · rw [if_neg c35] at H
            have c35b0 : (t360 == t364) = false := beq_eq_false_iff_ne.mpr c35
            have c35b1 : (t360 != t364) = true := bne_iff_ne.mpr c35
            have H' := Aside0.mk H
            clear H
            go_wp2
            go_meet
            case rel => exact ⟨_, (true), (by first | rfl | (simp; done) | (simp [*]; done)), H', ⟨by first | omega | exact Nat.le_refl _⟩, ⟨by (with_reducible repeat (first | apply Kd.R_alloc | apply Kd.R_drewN | apply Kd.R_drew)); exact Kd.R_mono HO348.out (fun _ hk => ⟨hk.1.1.2, ⟨hk.1.2, hk.2⟩⟩)⟩, ⟨by (with_reducible repeat (first | apply Kd.R_alloc | apply Kd.R_drewN | apply Kd.R_drew)); exact Kd.R_mono HO358.out (fun _ hk => ⟨hk.1.1.2, ⟨hk.1.2, hk.2⟩⟩)⟩, ⟨by (with_reducible repeat (first | apply Kd.R_alloc | apply Kd.R_drewN | apply Kd.R_drew)); exact Kd.R_mono HO362.out (fun _ hk => trivial)⟩, ⟨by (with_reducible repeat (first | apply Kd.R_alloc | apply Kd.R_drewN | apply Kd.R_drew)); exact Kd.R_mono HO370.out (fun _ hk => ⟨hk.1.1.2, ⟨hk.1.2, hk.2⟩⟩)⟩, ⟨by (with_reducible repeat (first | apply Kd.R_alloc | apply Kd.R_drewN | apply Kd.R_drew)); exact Kd.R_mono HO380.out (fun _ hk => ⟨hk.1.1.2, ⟨hk.1.2, hk.2⟩⟩)⟩, ⟨by repeat (first | (with_reducible first | exact HB.out | apply below_alloc | apply pw_below_drewN | apply below_drew1) | exact HB.out)⟩⟩
        · rw [if_neg c34] at H
          have c34b0 : (t349 == t351) = false := beq_eq_false_iff_ne.mpr c34
          have c34b1 : (t349 != t351) = true := bne_iff_ne.mpr c34
          have H' := Aside0.mk H
          clear H
          go_wp2
          go_meet
          case rel => exact ⟨_, (true), (by first | rfl | (simp; done) | (simp [*]; done)), H', ⟨by first | omega | exact Nat.le_refl _⟩, ⟨by (with_reducible repeat (first | apply Kd.R_alloc | apply Kd.R_drewN | apply Kd.R_drew)); exact Kd.R_mono HO348.out (fun _ hk => ⟨hk.1.1.2, ⟨hk.1.2, hk.2⟩⟩)⟩, ⟨by (with_reducible repeat (first | apply Kd.R_alloc | apply Kd.R_drewN | apply Kd.R_drew)); exact Kd.R_mono HO358.out (fun _ hk => ⟨hk.1.1.2, ⟨hk.1.2, hk.2⟩⟩)⟩, ⟨by (with_reducible repeat (first | apply Kd.R_alloc | apply Kd.R_drewN | apply Kd.R_drew)); exact Kd.R_mono HO362.out (fun _ hk => trivial)⟩, ⟨by (with_reducible repeat (first | apply Kd.R_alloc | apply Kd.R_drewN | apply Kd.R_drew)); exact Kd.R_mono HO370.out (fun _ hk => ⟨hk.1.1.2, ⟨hk.1.2, hk.2⟩⟩)⟩, ⟨by (with_reducible repeat (first | apply Kd.R_alloc | apply Kd.R_drewN | apply Kd.R_drew)); exact Kd.R_mono HO380.out (fun _ hk => ⟨hk.1.1.2, ⟨hk.1.2, hk.2⟩⟩)⟩, ⟨by repeat (first | (with_reducible first | exact HB.out | apply below_alloc | apply pw_below_drewN | apply below_drew1) | exact HB.out)⟩⟩
      · rw [if_neg c33] at H
        have c33b0 : (t350 == t352) = false := beq_eq_false_iff_ne.mpr c33
        have c33b1 : (t350 != t352) = true := bne_iff_ne.mpr c33
        (first | rw [c33b0] | (simp only [i64_w, i32_w]; rw [c33b0]) | skip)
        have H' := Aside0.mk H
        clear H
        go_wp2
        go_meet
        case rel => exact ⟨_, (true), (by first | rfl | (simp; done) | (simp [*]; done)), H', ⟨by first | omega | exact Nat.le_refl _⟩, ⟨by (with_reducible repeat (first | apply Kd.R_alloc | apply Kd.R_drewN | apply Kd.R_drew)); exact Kd.R_mono HO348.out (fun _ hk => ⟨hk.1.1.2, ⟨hk.1.2, hk.2⟩⟩)⟩, ⟨by (with_reducible repeat (first | apply Kd.R_alloc | apply Kd.R_drewN | apply Kd.R_drew)); exact Kd.R_mono HO358.out (fun _ hk => ⟨hk.1.1.2, ⟨hk.1.2, hk.2⟩⟩)⟩, ⟨by (with_reducible repeat (first | apply Kd.R_alloc | apply Kd.R_drewN | apply Kd.R_drew)); exact Kd.R_mono HO362.out (fun _ hk => trivial)⟩, ⟨by (with_reducible repeat (first | apply Kd.R_alloc | apply Kd.R_drewN | apply Kd.R_drew)); exact Kd.R_mono HO370.out (fun _ hk => ⟨hk.1.1.2, ⟨hk.1.2, hk.2⟩⟩)⟩, ⟨by (with_reducible repeat (first | apply Kd.R_alloc | apply Kd.R_drewN | apply Kd.R_drew)); exact Kd.R_mono HO380.out (fun _ hk => ⟨hk.1.1.2, ⟨hk.1.2, hk.2⟩⟩)⟩, ⟨by repeat (first | (with_reducible first | exact HB.out | apply below_alloc | apply pw_below_drewN | apply below_drew1) | exact HB.out)⟩⟩
    case rest =>
      clear HC16
      try clear c1
      try clear c2
      try clear p2
      try clear c3
      try clear c4
      try clear c6
      try clear c16
      try clear c17
      try clear c18
      try clear c19
      try clear c24
      try clear c25
      try clear c26
      try clear c27
      try clear c28
      try clear c29
      try clear c30
      try clear c31
      try clear c32
      try clear c33
      try clear c33b0
      try clear c33b1
      try clear c34
      try clear c34b0
      try clear c34b1
      try clear c35
      try clear c35b0
      try clear c35b1
      try clear c37
      try clear c38
      try clear c38b0
      try clear c38b1
      try clear c39
      try clear c39b0
      try clear c39b1
      try clear c40
      try clear c40b0
      try clear c40b1
      obtain ⟨kq, x170_15, rfl, HA, HJ15, HO_3, HO_11, HO_15, HO_19, HO_25, HB⟩ := hcut
      cases kq with
      | zero => exact absurd HA.out (by simp [laws_FnHops.j0])
      | succ kj15 =>
        have H := HA.out
        clear HA
        simp only [laws_FnHops.j0] at H
        by_cases c51 : x170_15 = true
        · subst c51
          have H1 : (some false) = some r := by rw [if_pos rfl] at H; exact H
          clear H
          have H := H1
          clear H1
          obtain rfl := Option.some.inj H
          go_wp2
          go_ret
          exact ⟨by first | rfl | (simp [errW_none, errW_some] <;> rfl) | (simp [*, errW_none, errW_some] <;> rfl), by repeat (first | (with_reducible first | exact HB.out | apply below_alloc | apply pw_below_drewN | apply below_drew1) | exact HB.out)⟩
        · replace c51 := Bool.eq_false_iff.mpr c51
          subst c51
          have H1 : (laws_FnHops.l0 kj15 t343 t344 t345 t346 t349 t350 t353 t354 t355 t356 t359 t360 t367 t368 t371 t372 t375 t376 t377 t378 t381 t382 0) = some r := by rw [if_neg (show ¬ (false = true) by decide)] at H; exact H
          clear H
          have H := H1
          clear H1
          have H' := Aside0.mk H
          clear H
          go_wp2
          go_loopg [33] kj15 (fun kq v33 w' => ∃ (x33_2 : Int), v33 = .int .i64 x33_2 ∧ Aside0 (laws_FnHops.l0 kq t343 t344 t345 t346 t349 t350 t353 t354 t355 t356 t359 t360 t367 t368 t371 t372 t375 t376 t377 t378 t381 t382 x33_2 = some r) ∧ Aside0 (kq ≤ kj15) ∧ Aside0 (Kd.R k63 63 w' w.heap.size (fun k_ => some k_ ≠ ((.slice Ao22 t353.length co22) : Value).ownBlock ∧ some k_ ≠ ((.slice Ao26 t367.length co26) : Value).ownBlock ∧ some k_ ≠ ((.slice Ao30 t375.length co30) : Value).ownBlock) (.slice Ao18 t343.length co18) t343) ∧ Aside0 (Kd.R k63 63 w' w.heap.size (fun k_ => some k_ ≠ ((.slice Ao18 t343.length co18) : Value).ownBlock ∧ some k_ ≠ ((.slice Ao26 t367.length co26) : Value).ownBlock ∧ some k_ ≠ ((.slice Ao30 t375.length co30) : Value).ownBlock) (.slice Ao22 t353.length co22) t353) ∧ Aside0 (Kd.R (Kd.int .i64) 2 w' w.heap.size (fun _ => True) v361 t359) ∧ Aside0 (Kd.R k63 63 w' w.heap.size (fun k_ => some k_ ≠ ((.slice Ao18 t343.length co18) : Value).ownBlock ∧ some k_ ≠ ((.slice Ao22 t353.length co22) : Value).ownBlock ∧ some k_ ≠ ((.slice Ao30 t375.length co30) : Value).ownBlock) (.slice Ao26 t367.length co26) t367) ∧ Aside0 (Kd.R k63 63 w' w.heap.size (fun k_ => some k_ ≠ ((.slice Ao18 t343.length co18) : Value).ownBlock ∧ some k_ ≠ ((.slice Ao22 t353.length co22) : Value).ownBlock ∧ some k_ ≠ ((.slice Ao26 t367.length co26) : Value).ownBlock) (.slice Ao30 t375.length co30) t375) ∧ Aside0 (Below w.heap.size w w'))
          case atStart => exact ⟨(0), (by first | rfl | (simp; done) | (simp [*]; done)), H', ⟨Nat.le_refl _⟩, ⟨by (with_reducible repeat (first | apply Kd.R_alloc | apply Kd.R_drewN | apply Kd.R_drew)); exact HO_3.out⟩, ⟨by (with_reducible repeat (first | apply Kd.R_alloc | apply Kd.R_drewN | apply Kd.R_drew)); exact HO_11.out⟩, ⟨by (with_reducible repeat (first | apply Kd.R_alloc | apply Kd.R_drewN | apply Kd.R_drew)); exact HO_15.out⟩, ⟨by (with_reducible repeat (first | apply Kd.R_alloc | apply Kd.R_drewN | apply Kd.R_drew)); exact HO_19.out⟩, ⟨by (with_reducible repeat (first | apply Kd.R_alloc | apply Kd.R_drewN | apply Kd.R_drew)); exact HO_25.out⟩, ⟨by repeat (first | (with_reducible first | exact HB.out | apply below_alloc | apply pw_below_drewN | apply below_drew1) | exact HB.out)⟩⟩
          case round =>
            clear H'
            try clear c1
            try clear c2
            try clear p2
            try clear c3
            try clear c4
            try clear c5
            try clear c6
            try clear c16
            try clear c17
            try clear c18
            try clear c19
            try clear c24
            try clear c25
            try clear c26
            try clear c27
            try clear c28
            try clear c29
            try clear c30
            try clear c31
            try clear c32
            try clear c33
            try clear c33b0
            try clear c33b1
            try clear c34
            try clear c34b0
            try clear c34b1
            try clear c35
            try clear c35b0
            try clear c35b1
            try clear c37
            try clear c38
            try clear c38b0
            try clear c38b1
            try clear c39
            try clear c39b0
            try clear c39b1
            try clear c40
            try clear c40b0
            try clear c40b1
            try clear c51
            try clear p2
            obtain ⟨x33_2, rfl, HA, HK2, HO_3, HO_11, HO_15, HO_19, HO_25, HB⟩ := hrel
            cases gk with
            | zero => exact absurd HA.out (by simp [laws_FnHops.l0])
            | succ k2 =>
              have H := HA.out
              clear HA
              simp only [laws_FnHops.l0] at H
              have HC52 := Aside0.mk H
              clear H
              go_upto_region 18 with (fail)
              go_cut [178] (fun v178 wc => ∃ (kq : Nat) (x178_51 : Bool), v178 = .bool x178_51 ∧ Aside0 (laws_FnHops.j2 kq t343 t344 t345 t346 t349 t350 t353 t354 t355 t356 t359 t360 t367 t368 t371 t372 t375 t376 t377 t378 t381 t382 x33_2 x178_51 = some r) ∧ Aside0 (kq ≤ k2) ∧ Aside0 (Kd.R k63 63 wc w.heap.size (fun k_ => some k_ ≠ ((.slice Ao22 t353.length co22) : Value).ownBlock ∧ some k_ ≠ ((.slice Ao26 t367.length co26) : Value).ownBlock ∧ some k_ ≠ ((.slice Ao30 t375.length co30) : Value).ownBlock) (.slice Ao18 t343.length co18) t343) ∧ Aside0 (Kd.R k63 63 wc w.heap.size (fun k_ => some k_ ≠ ((.slice Ao18 t343.length co18) : Value).ownBlock ∧ some k_ ≠ ((.slice Ao26 t367.length co26) : Value).ownBlock ∧ some k_ ≠ ((.slice Ao30 t375.length co30) : Value).ownBlock) (.slice Ao22 t353.length co22) t353) ∧ Aside0 (Kd.R (Kd.int .i64) 2 wc w.heap.size (fun _ => True) v361 t359) ∧ Aside0 (Kd.R k63 63 wc w.heap.size (fun k_ => some k_ ≠ ((.slice Ao18 t343.length co18) : Value).ownBlock ∧ some k_ ≠ ((.slice Ao22 t353.length co22) : Value).ownBlock ∧ some k_ ≠ ((.slice Ao30 t375.length co30) : Value).ownBlock) (.slice Ao26 t367.length co26) t367) ∧ Aside0 (Kd.R k63 63 wc w.heap.size (fun k_ => some k_ ≠ ((.slice Ao18 t343.length co18) : Value).ownBlock ∧ some k_ ≠ ((.slice Ao22 t353.length co22) : Value).ownBlock ∧ some k_ ≠ ((.slice Ao26 t367.length co26) : Value).ownBlock) (.slice Ao30 t375.length co30) t375) ∧ Aside0 (Below w.heap.size w wc))
              case first =>
                have H := HC52.out
                clear HC52
                by_cases c53 : t360 = 0
                · rw [if_pos c53] at H
                  have c53b0 : (t360 == 0) = true := beq_iff_eq.mpr c53
                  have c53b1 : (t360 != 0) = false := bne_eq_false_iff_eq.mpr c53
                  clear c53
                  (first | rw [c53b0] | (simp only [i64_w, i32_w]; rw [c53b0]) | skip)
                  have H' := Aside0.mk H
                  clear H
                  go_wp2
                  go_meet
                  case rel => exact ⟨_, (decide (x33_2 < (t353.length : Int))), (by first | rfl | (simp; done) | (simp [*]; done)), H', ⟨by have := HJ15.out; have := HK2.out; first | omega | exact Nat.le_refl _⟩, ⟨by (with_reducible repeat (first | apply Kd.R_alloc | apply Kd.R_drewN | apply Kd.R_drew)); exact HO_3.out⟩, ⟨by (with_reducible repeat (first | apply Kd.R_alloc | apply Kd.R_drewN | apply Kd.R_drew)); exact HO_11.out⟩, ⟨by (with_reducible repeat (first | apply Kd.R_alloc | apply Kd.R_drewN | apply Kd.R_drew)); exact HO_15.out⟩, ⟨by (with_reducible repeat (first | apply Kd.R_alloc | apply Kd.R_drewN | apply Kd.R_drew)); exact HO_19.out⟩, ⟨by (with_reducible repeat (first | apply Kd.R_alloc | apply Kd.R_drewN | apply Kd.R_drew)); exact HO_25.out⟩, ⟨by repeat (first | (with_reducible first | exact HB.out | apply below_alloc | apply pw_below_drewN | apply below_drew1) | exact HB.out)⟩⟩
                · rw [if_neg c53] at H
                  have c53b0 : (t360 == 0) = false := beq_eq_false_iff_ne.mpr c53
                  have c53b1 : (t360 != 0) = true := bne_iff_ne.mpr c53
                  (first | rw [c53b0] | (simp only [i64_w, i32_w]; rw [c53b0]) | skip)
                  have H' := Aside0.mk H
                  clear H
                  go_wp2
                  go_meet
                  case rel => exact ⟨_, (false), (by first | rfl | (simp; done) | (simp [*]; done)), H', ⟨by have := HJ15.out; have := HK2.out; first | omega | exact Nat.le_refl _⟩, ⟨by (with_reducible repeat (first | apply Kd.R_alloc | apply Kd.R_drewN | apply Kd.R_drew)); exact HO_3.out⟩, ⟨by (with_reducible repeat (first | apply Kd.R_alloc | apply Kd.R_drewN | apply Kd.R_drew)); exact HO_11.out⟩, ⟨by (with_reducible repeat (first | apply Kd.R_alloc | apply Kd.R_drewN | apply Kd.R_drew)); exact HO_15.out⟩, ⟨by (with_reducible repeat (first | apply Kd.R_alloc | apply Kd.R_drewN | apply Kd.R_drew)); exact HO_19.out⟩, ⟨by (with_reducible repeat (first | apply Kd.R_alloc | apply Kd.R_drewN | apply Kd.R_drew)); exact HO_25.out⟩, ⟨by repeat (first | (with_reducible first | exact HB.out | apply below_alloc | apply pw_below_drewN | apply below_drew1) | exact HB.out)⟩⟩
              case rest =>
                clear HC52
                try clear c1
                try clear c2
                try clear p2
                try clear c3
                try clear c4
                try clear c5
                try clear c6
                try clear c16
                try clear c17
                try clear c18
                try clear c19
                try clear c24
                try clear c25
                try clear c26
                try clear c27
                try clear c28
                try clear c29
                try clear c30
                try clear c31
                try clear c32
                try clear c33
                try clear c33b0
                try clear c33b1
                try clear c34
                try clear c34b0
                try clear c34b1
                try clear c35
                try clear c35b0
                try clear c35b1
                try clear c37
                try clear c38
                try clear c38b0
                try clear c38b1
                try clear c39
                try clear c39b0
                try clear c39b1
                try clear c40
                try clear c40b0
                try clear c40b1
                try clear c51
                try clear c53
                try clear c53b0
                try clear c53b1
                try clear p2
                obtain ⟨kq, x178_51, rfl, HA, HJ51, HO_3, HO_11, HO_15, HO_19, HO_25, HB⟩ := hcut
                cases kq with
                | zero => exact absurd HA.out (by simp [laws_FnHops.j2])
                | succ kj51 =>
                  have H := HA.out
                  clear HA
                  simp only [laws_FnHops.j2] at H
                  by_cases c54 : x178_51 = true
                  · subst c54
                    have H1 : ((impl_StopTick.f kj51 t353 t354 t355 x33_2).bind fun bt386 => (if bt386.2 = 0 then ((laws_hasInt.f kj51 t359 x33_2).bind fun t388 => (if (t388 != (decide (bt386.1 ≤ t356))) = true then (some false) else (laws_FnHops.l0 kj51 t343 t344 t345 t346 t349 t350 t353 t354 t355 t356 t359 t360 t367 t368 t371 t372 t375 t376 t377 t378 t381 t382 (wrap64 (x33_2 + 1))))) else (some false))) = some r := by rw [if_pos rfl] at H; exact H
                    clear H
                    have H := H1
                    clear H1
                    replace H := Option.bind_eq_some_iff.mp H
                    obtain ⟨⟨t386, t387⟩, A550, H⟩ := H
                    replace H : (if t387 = 0 then ((laws_hasInt.f kj51 t359 x33_2).bind fun t388 => (if (t388 != (decide (t386 ≤ t356))) = true then (some false) else (laws_FnHops.l0 kj51 t343 t344 t345 t346 t349 t350 t353 t354 t355 t356 t359 t360 t367 t368 t371 t372 t375 t376 t377 t378 t381 t382 (wrap64 (x33_2 + 1))))) else (some false)) = some r := H
                    have A55 := Aside0.mk A550
                    clear A550
                    by_cases c56 : t387 = 0
                    · rw [if_pos c56] at H
                      have c56b0 : (t387 == 0) = true := beq_iff_eq.mpr c56
                      have c56b1 : (t387 != 0) = false := bne_eq_false_iff_eq.mpr c56
                      clear c56
                      replace H := Option.bind_eq_some_iff.mp H
                      obtain ⟨t388, A570, H⟩ := H
                      replace H : (if (t388 != (decide (t386 ≤ t356))) = true then (some false) else (laws_FnHops.l0 kj51 t343 t344 t345 t346 t349 t350 t353 t354 t355 t356 t359 t360 t367 t368 t371 t372 t375 t376 t377 t378 t381 t382 (wrap64 (x33_2 + 1)))) = some r := H
                      have A57 := Aside0.mk A570
                      clear A570
                      by_cases c58 : (t388 != (decide (t386 ≤ t356))) = true
                      · rw [if_pos c58] at H
                        have c58b0 : (t388 != (decide (t386 ≤ t356))) = true := c58
                        (try (have c58b1 : decide (t388 = (decide (t386 ≤ t356))) = false := by simpa using c58))
                        (try (have c58b2 : (t388 == (decide (t386 ≤ t356))) = false := by simpa using c58))
                        (try (have c58b3 : ¬ (t388 = (decide (t386 ≤ t356))) := by simpa using c58))
                        clear c58
                        obtain rfl := Option.some.inj H
                        go_wp2_with (first | ((with_reducible refine gate_callee (f := 26) rfl ?_); refine goesL_ (some 186) rfl rfl Try.func26 (by kernel_rfl) rfl #[.slice Ao22 t353.length co22, .int .i64 t354, .int .i64 t355, .int .i64 x33_2] rfl (by (try simp only [List.map_toArray, List.map_cons, List.map_nil]); first | done | rfl | (simp only [List.length_drop, List.length_take]; rfl)) ?_; (with_reducible refine (impl_StopTick.calls kj51 _ _ t353 t354 t355 x33_2 t386 t387 _ ?side1 ?side2 A55.out).mono ?_); (case side1 => repeat (first | exact (Kd.R_reads' HO_11.out).2.2 | (with_reducible refine Kd.C_alloc ?_ _) | (with_reducible refine Kd.C_drewN ?_ _) | (with_reducible refine Kd.C_drew ?_))); (case side2 => exact (Kd.R_reads' HO_11.out).2.1); rintro e w59 ⟨rfl, hb⟩; refine ⟨_, rfl, ?_⟩; have n0_ := Aside0.mk (Kd.R_below (by (with_reducible repeat (first | apply Kd.R_alloc | apply Kd.R_drewN | apply Kd.R_drew)); exact HO_3.out) hb); have n1_ := Aside0.mk (Kd.R_below (by (with_reducible repeat (first | apply Kd.R_alloc | apply Kd.R_drewN | apply Kd.R_drew)); exact HO_11.out) hb); have n2_ := Aside0.mk (Kd.R_below (by (with_reducible repeat (first | apply Kd.R_alloc | apply Kd.R_drewN | apply Kd.R_drew)); exact HO_15.out) hb); have n3_ := Aside0.mk (Kd.R_below (by (with_reducible repeat (first | apply Kd.R_alloc | apply Kd.R_drewN | apply Kd.R_drew)); exact HO_19.out) hb); have n4_ := Aside0.mk (Kd.R_below (by (with_reducible repeat (first | apply Kd.R_alloc | apply Kd.R_drewN | apply Kd.R_drew)); exact HO_25.out) hb); have n5_ := Aside0.mk (below_step (by repeat (first | (with_reducible first | exact HB.out | apply below_alloc | apply pw_below_drewN | apply below_drew1) | exact HB.out)) hb); clear HO_3; clear HO_11; clear HO_15; clear HO_19; clear HO_25; clear HB; have HO_3 := n0_; have HO_11 := n1_; have HO_15 := n2_; have HO_19 := n3_; have HO_25 := n4_; have HB := n5_; clear n0_ n1_ n2_ n3_ n4_ n5_; (try clear hb); (try clear hb2); (try clear hk); (try clear hi); obtain ⟨Ao60, co60, eo60⟩ := Kd.R_slice HO_15.out; subst eo60) | (go_at_call 34; (with_reducible refine (laws_hasInt.calls kj51 _ _ t359 x33_2 t388 _ ?side1 ?side2 A57.out).mono ?_); (case side1 => repeat (first | exact (Kd.R_reads' HO_15.out).2.2 | (with_reducible refine Kd.C_alloc ?_ _) | (with_reducible refine Kd.C_drewN ?_ _) | (with_reducible refine Kd.C_drew ?_))); (case side2 => exact (Kd.R_reads' HO_15.out).2.1); rintro e w' ⟨rfl, ⟨nd, rfl⟩⟩))
                        go_ret
                        exact ⟨by first | rfl | (simp [errW_none, errW_some] <;> rfl) | (simp [*, errW_none, errW_some] <;> rfl), by repeat (first | (with_reducible first | exact HB.out | apply below_alloc | apply pw_below_drewN | apply below_drew1) | exact HB.out)⟩
                      · rw [if_neg c58] at H
                        have c58b0 : (t388 != (decide (t386 ≤ t356))) = false := by simpa using c58
                        (try (have c58b1 : decide (t388 = (decide (t386 ≤ t356))) = true := by simpa using c58))
                        (try (have c58b2 : (t388 == (decide (t386 ≤ t356))) = true := by simpa using c58))
                        clear c58
                        have H' := Aside0.mk H
                        clear H
                        go_wp2_with (first | ((with_reducible refine gate_callee (f := 26) rfl ?_); refine goesL_ (some 186) rfl rfl Try.func26 (by kernel_rfl) rfl #[.slice Ao22 t353.length co22, .int .i64 t354, .int .i64 t355, .int .i64 x33_2] rfl (by (try simp only [List.map_toArray, List.map_cons, List.map_nil]); first | done | rfl | (simp only [List.length_drop, List.length_take]; rfl)) ?_; (with_reducible refine (impl_StopTick.calls kj51 _ _ t353 t354 t355 x33_2 t386 t387 _ ?side1 ?side2 A55.out).mono ?_); (case side1 => repeat (first | exact (Kd.R_reads' HO_11.out).2.2 | (with_reducible refine Kd.C_alloc ?_ _) | (with_reducible refine Kd.C_drewN ?_ _) | (with_reducible refine Kd.C_drew ?_))); (case side2 => exact (Kd.R_reads' HO_11.out).2.1); rintro e w61 ⟨rfl, hb⟩; refine ⟨_, rfl, ?_⟩; have n0_ := Aside0.mk (Kd.R_below (by (with_reducible repeat (first | apply Kd.R_alloc | apply Kd.R_drewN | apply Kd.R_drew)); exact HO_3.out) hb); have n1_ := Aside0.mk (Kd.R_below (by (with_reducible repeat (first | apply Kd.R_alloc | apply Kd.R_drewN | apply Kd.R_drew)); exact HO_11.out) hb); have n2_ := Aside0.mk (Kd.R_below (by (with_reducible repeat (first | apply Kd.R_alloc | apply Kd.R_drewN | apply Kd.R_drew)); exact HO_15.out) hb); have n3_ := Aside0.mk (Kd.R_below (by (with_reducible repeat (first | apply Kd.R_alloc | apply Kd.R_drewN | apply Kd.R_drew)); exact HO_19.out) hb); have n4_ := Aside0.mk (Kd.R_below (by (with_reducible repeat (first | apply Kd.R_alloc | apply Kd.R_drewN | apply Kd.R_drew)); exact HO_25.out) hb); have n5_ := Aside0.mk (below_step (by repeat (first | (with_reducible first | exact HB.out | apply below_alloc | apply pw_below_drewN | apply below_drew1) | exact HB.out)) hb); clear HO_3; clear HO_11; clear HO_15; clear HO_19; clear HO_25; clear HB; have HO_3 := n0_; have HO_11 := n1_; have HO_15 := n2_; have HO_19 := n3_; have HO_25 := n4_; have HB := n5_; clear n0_ n1_ n2_ n3_ n4_ n5_; (try clear hb); (try clear hb2); (try clear hk); (try clear hi); obtain ⟨Ao62, co62, eo62⟩ := Kd.R_slice HO_15.out; subst eo62) | (go_at_call 34; (with_reducible refine (laws_hasInt.calls kj51 _ _ t359 x33_2 t388 _ ?side1 ?side2 A57.out).mono ?_); (case side1 => repeat (first | exact (Kd.R_reads' HO_15.out).2.2 | (with_reducible refine Kd.C_alloc ?_ _) | (with_reducible refine Kd.C_drewN ?_ _) | (with_reducible refine Kd.C_drew ?_))); (case side2 => exact (Kd.R_reads' HO_15.out).2.1); rintro e w' ⟨rfl, ⟨nd, rfl⟩⟩))
                        go_roundg kj51
                        case measure => have := HJ15.out; have := HK2.out; have := HJ51.out; omega
                        case rel => exact ⟨(wrap64 (x33_2 + 1)), (by first | rfl | (simp; done) | (simp [*]; done)), H', ⟨by have := HJ15.out; have := HK2.out; have := HJ51.out; omega⟩, ⟨by (with_reducible repeat (first | apply Kd.R_alloc | apply Kd.R_drewN | apply Kd.R_drew)); exact HO_3.out⟩, ⟨by (with_reducible repeat (first | apply Kd.R_alloc | apply Kd.R_drewN | apply Kd.R_drew)); exact HO_11.out⟩, ⟨by (with_reducible repeat (first | apply Kd.R_alloc | apply Kd.R_drewN | apply Kd.R_drew)); exact HO_15.out⟩, ⟨by (with_reducible repeat (first | apply Kd.R_alloc | apply Kd.R_drewN | apply Kd.R_drew)); exact HO_19.out⟩, ⟨by (with_reducible repeat (first | apply Kd.R_alloc | apply Kd.R_drewN | apply Kd.R_drew)); exact HO_25.out⟩, ⟨by repeat (first | (with_reducible first | exact HB.out | apply below_alloc | apply pw_below_drewN | apply below_drew1) | exact HB.out)⟩⟩
                    · rw [if_neg c56] at H
                      have c56b0 : (t387 == 0) = false := beq_eq_false_iff_ne.mpr c56
                      have c56b1 : (t387 != 0) = true := bne_iff_ne.mpr c56
                      obtain rfl := Option.some.inj H
                      go_wp2_with (first | ((with_reducible refine gate_callee (f := 26) rfl ?_); refine goesL_ (some 186) rfl rfl Try.func26 (by kernel_rfl) rfl #[.slice Ao22 t353.length co22, .int .i64 t354, .int .i64 t355, .int .i64 x33_2] rfl (by (try simp only [List.map_toArray, List.map_cons, List.map_nil]); first | done | rfl | (simp only [List.length_drop, List.length_take]; rfl)) ?_; (with_reducible refine (impl_StopTick.calls kj51 _ _ t353 t354 t355 x33_2 t386 t387 _ ?side1 ?side2 A55.out).mono ?_); (case side1 => repeat (first | exact (Kd.R_reads' HO_11.out).2.2 | (with_reducible refine Kd.C_alloc ?_ _) | (with_reducible refine Kd.C_drewN ?_ _) | (with_reducible refine Kd.C_drew ?_))); (case side2 => exact (Kd.R_reads' HO_11.out).2.1); rintro e w63 ⟨rfl, hb⟩; refine ⟨_, rfl, ?_⟩; have n0_ := Aside0.mk (Kd.R_below (by (with_reducible repeat (first | apply Kd.R_alloc | apply Kd.R_drewN | apply Kd.R_drew)); exact HO_3.out) hb); have n1_ := Aside0.mk (Kd.R_below (by (with_reducible repeat (first | apply Kd.R_alloc | apply Kd.R_drewN | apply Kd.R_drew)); exact HO_11.out) hb); have n2_ := Aside0.mk (Kd.R_below (by (with_reducible repeat (first | apply Kd.R_alloc | apply Kd.R_drewN | apply Kd.R_drew)); exact HO_15.out) hb); have n3_ := Aside0.mk (Kd.R_below (by (with_reducible repeat (first | apply Kd.R_alloc | apply Kd.R_drewN | apply Kd.R_drew)); exact HO_19.out) hb); have n4_ := Aside0.mk (Kd.R_below (by (with_reducible repeat (first | apply Kd.R_alloc | apply Kd.R_drewN | apply Kd.R_drew)); exact HO_25.out) hb); have n5_ := Aside0.mk (below_step (by repeat (first | (with_reducible first | exact HB.out | apply below_alloc | apply pw_below_drewN | apply below_drew1) | exact HB.out)) hb); clear HO_3; clear HO_11; clear HO_15; clear HO_19; clear HO_25; clear HB; have HO_3 := n0_; have HO_11 := n1_; have HO_15 := n2_; have HO_19 := n3_; have HO_25 := n4_; have HB := n5_; clear n0_ n1_ n2_ n3_ n4_ n5_; (try clear hb); (try clear hb2); (try clear hk); (try clear hi)))
                      go_ret
                      exact ⟨by first | rfl | (simp [errW_none, errW_some] <;> rfl) | (simp [*, errW_none, errW_some] <;> rfl), by repeat (first | (with_reducible first | exact HB.out | apply below_alloc | apply pw_below_drewN | apply below_drew1) | exact HB.out)⟩
                  · replace c54 := Bool.eq_false_iff.mpr c54
                    subst c54
                    have H1 : (if t372 = 0 then ((impl_LastStop.f kj51 t367 t371 0).bind fun bt389 => (if bt389.2 = 0 then (laws_FnHops.j3 kj51 t343 t344 t345 t346 t349 t350 t367 t368 t371 t375 t376 t377 t378 t381 t382 (decide (bt389.1 > t368))) else (laws_FnHops.j3 kj51 t343 t344 t345 t346 t349 t350 t367 t368 t371 t375 t376 t377 t378 t381 t382 true))) else (laws_FnHops.j4 kj51 t343 t344 t345 t346 t349 t350 t375 t376 t377 t378 t381 t382)) = some r := by rw [if_neg (show ¬ (false = true) by decide)] at H; exact H
                    clear H
                    have H := H1
                    clear H1
                    have HC64 := Aside0.mk H
                    clear H
                    go_upto_if 201 with (fail)
                    go_cut [] (fun wc => ∃ (kq : Nat), Aside0 (laws_FnHops.j4 kq t343 t344 t345 t346 t349 t350 t375 t376 t377 t378 t381 t382 = some r) ∧ Aside0 (kq ≤ kj51) ∧ Aside0 (Kd.R k63 63 wc w.heap.size (fun k_ => some k_ ≠ ((.slice Ao30 t375.length co30) : Value).ownBlock) (.slice Ao18 t343.length co18) t343) ∧ Aside0 (Kd.R k63 63 wc w.heap.size (fun k_ => some k_ ≠ ((.slice Ao18 t343.length co18) : Value).ownBlock) (.slice Ao30 t375.length co30) t375) ∧ Aside0 (Below w.heap.size w wc))
                    case first =>
                      have H := HC64.out
                      clear HC64
                      by_cases c65 : t372 = 0
                      · as_aux_lemma =>
                        rw [if_pos c65] at H
                        have c65b0 : (t372 == 0) = true := beq_iff_eq.mpr c65
                        have c65b1 : (t372 != 0) = false := bne_eq_false_iff_eq.mpr c65
                        clear c65
                        (first | rw [c65b0] | (simp only [i64_w, i32_w]; rw [c65b0]) | skip)
                        replace H := Option.bind_eq_some_iff.mp H
                        obtain ⟨⟨t389, t390⟩, A660, H⟩ := H
                        replace H : (if t390 = 0 then (laws_FnHops.j3 kj51 t343 t344 t345 t346 t349 t350 t367 t368 t371 t375 t376 t377 t378 t381 t382 (decide (t389 > t368))) else (laws_FnHops.j3 kj51 t343 t344 t345 t346 t349 t350 t367 t368 t371 t375 t376 t377 t378 t381 t382 true)) = some r := H
                        have A66 := Aside0.mk A660
                        clear A660
                        have HC67 := Aside0.mk H
                        clear H
                        go_upto_region 25 with (first | ((with_reducible refine gate_callee (f := 14) rfl ?_); refine goesL_ (some 205) rfl rfl Try.func14 (by kernel_rfl) rfl #[.slice Ao26 t367.length co26, .int .i64 t371, .int .i64 0] rfl (by (try simp only [List.map_toArray, List.map_cons, List.map_nil]); first | done | rfl | (simp only [List.length_drop, List.length_take]; rfl)) ?_; (with_reducible refine (impl_LastStop.calls kj51 _ _ t367 t371 0 t389 t390 _ ?side1 ?side2 A66.out).mono ?_); (case side1 => repeat (first | exact (Kd.R_reads' HO_19.out).2.2 | (with_reducible refine Kd.C_alloc ?_ _) | (with_reducible refine Kd.C_drewN ?_ _) | (with_reducible refine Kd.C_drew ?_))); (case side2 => exact (Kd.R_reads' HO_19.out).2.1); rintro e w68 ⟨rfl, hb⟩; refine ⟨_, rfl, ?_⟩; have n0_ := Aside0.mk (Kd.R_below (by (with_reducible repeat (first | apply Kd.R_alloc | apply Kd.R_drewN | apply Kd.R_drew)); exact HO_3.out) hb); have n1_ := Aside0.mk (Kd.R_below (by (with_reducible repeat (first | apply Kd.R_alloc | apply Kd.R_drewN | apply Kd.R_drew)); exact HO_11.out) hb); have n2_ := Aside0.mk (Kd.R_below (by (with_reducible repeat (first | apply Kd.R_alloc | apply Kd.R_drewN | apply Kd.R_drew)); exact HO_15.out) hb); have n3_ := Aside0.mk (Kd.R_below (by (with_reducible repeat (first | apply Kd.R_alloc | apply Kd.R_drewN | apply Kd.R_drew)); exact HO_19.out) hb); have n4_ := Aside0.mk (Kd.R_below (by (with_reducible repeat (first | apply Kd.R_alloc | apply Kd.R_drewN | apply Kd.R_drew)); exact HO_25.out) hb); have n5_ := Aside0.mk (below_step (by repeat (first | (with_reducible first | exact HB.out | apply below_alloc | apply pw_below_drewN | apply below_drew1) | exact HB.out)) hb); clear HO_3; clear HO_11; clear HO_15; clear HO_19; clear HO_25; clear HB; have HO_3 := n0_; have HO_11 := n1_; have HO_15 := n2_; have HO_19 := n3_; have HO_25 := n4_; have HB := n5_; clear n0_ n1_ n2_ n3_ n4_ n5_; (try clear hb); (try clear hb2); (try clear hk); (try clear hi)))
                        (try simp only [Act.put, List.setIfInBounds_toArray, List.set_cons_zero, List.set_cons_succ])
                        go_cut [214] (fun v214 wc => ∃ (kq : Nat) (x214_66 : Bool), v214 = .bool x214_66 ∧ Aside0 (laws_FnHops.j3 kq t343 t344 t345 t346 t349 t350 t367 t368 t371 t375 t376 t377 t378 t381 t382 x214_66 = some r) ∧ Aside0 (kq ≤ kj51) ∧ Aside0 (Kd.R k63 63 wc w.heap.size (fun k_ => some k_ ≠ ((.slice Ao26 t367.length co26) : Value).ownBlock ∧ some k_ ≠ ((.slice Ao30 t375.length co30) : Value).ownBlock) (.slice Ao18 t343.length co18) t343) ∧ Aside0 (Kd.R k63 63 wc w.heap.size (fun k_ => some k_ ≠ ((.slice Ao18 t343.length co18) : Value).ownBlock ∧ some k_ ≠ ((.slice Ao30 t375.length co30) : Value).ownBlock) (.slice Ao26 t367.length co26) t367) ∧ Aside0 (Kd.R k63 63 wc w.heap.size (fun k_ => some k_ ≠ ((.slice Ao18 t343.length co18) : Value).ownBlock ∧ some k_ ≠ ((.slice Ao26 t367.length co26) : Value).ownBlock) (.slice Ao30 t375.length co30) t375) ∧ Aside0 (Below w.heap.size w wc))
                        case first =>
                          have H := HC67.out
                          clear HC67
                          by_cases c69 : t390 = 0
                          · rw [if_pos c69] at H
                            have c69b0 : (t390 == 0) = true := beq_iff_eq.mpr c69
                            have c69b1 : (t390 != 0) = false := bne_eq_false_iff_eq.mpr c69
                            clear c69
                            (first | rw [c69b0] | (simp only [i64_w, i32_w]; rw [c69b0]) | skip)
                            have H' := Aside0.mk H
                            clear H
                            go_wp2
                            go_meet
                            case rel => exact ⟨_, (decide (t389 > t368)), (by first | rfl | (simp; done) | (simp [*]; done)), H', ⟨by have := HJ15.out; have := HK2.out; have := HJ51.out; first | omega | exact Nat.le_refl _⟩, ⟨by (with_reducible repeat (first | apply Kd.R_alloc | apply Kd.R_drewN | apply Kd.R_drew)); exact Kd.R_mono HO_3.out (fun _ hk => ⟨hk.2.1, hk.2.2⟩)⟩, ⟨by (with_reducible repeat (first | apply Kd.R_alloc | apply Kd.R_drewN | apply Kd.R_drew)); exact Kd.R_mono HO_19.out (fun _ hk => ⟨hk.1, hk.2.2⟩)⟩, ⟨by (with_reducible repeat (first | apply Kd.R_alloc | apply Kd.R_drewN | apply Kd.R_drew)); exact Kd.R_mono HO_25.out (fun _ hk => ⟨hk.1, hk.2.2⟩)⟩, ⟨by repeat (first | (with_reducible first | exact HB.out | apply below_alloc | apply pw_below_drewN | apply below_drew1) | exact HB.out)⟩⟩
                          · rw [if_neg c69] at H
                            have c69b0 : (t390 == 0) = false := beq_eq_false_iff_ne.mpr c69
                            have c69b1 : (t390 != 0) = true := bne_iff_ne.mpr c69
                            (first | rw [c69b0] | (simp only [i64_w, i32_w]; rw [c69b0]) | skip)
                            have H' := Aside0.mk H
                            clear H
                            go_wp2
                            go_meet
                            case rel => exact ⟨_, (true), (by first | rfl | (simp; done) | (simp [*]; done)), H', ⟨by have := HJ15.out; have := HK2.out; have := HJ51.out; first | omega | exact Nat.le_refl _⟩, ⟨by (with_reducible repeat (first | apply Kd.R_alloc | apply Kd.R_drewN | apply Kd.R_drew)); exact Kd.R_mono HO_3.out (fun _ hk => ⟨hk.2.1, hk.2.2⟩)⟩, ⟨by (with_reducible repeat (first | apply Kd.R_alloc | apply Kd.R_drewN | apply Kd.R_drew)); exact Kd.R_mono HO_19.out (fun _ hk => ⟨hk.1, hk.2.2⟩)⟩, ⟨by (with_reducible repeat (first | apply Kd.R_alloc | apply Kd.R_drewN | apply Kd.R_drew)); exact Kd.R_mono HO_25.out (fun _ hk => ⟨hk.1, hk.2.2⟩)⟩, ⟨by repeat (first | (with_reducible first | exact HB.out | apply below_alloc | apply pw_below_drewN | apply below_drew1) | exact HB.out)⟩⟩
                        case rest =>
                          clear HC67
                          try clear c1
                          try clear c2
                          try clear p2
                          try clear c3
                          try clear c4
                          try clear c5
                          try clear c6
                          try clear p6
                          try clear c14
                          try clear c16
                          try clear c17
                          try clear c18
                          try clear c19
                          try clear c24
                          try clear c25
                          try clear c26
                          try clear c27
                          try clear c28
                          try clear c29
                          try clear c30
                          try clear c31
                          try clear c32
                          try clear c33
                          try clear c33b0
                          try clear c33b1
                          try clear c34
                          try clear c34b0
                          try clear c34b1
                          try clear c35
                          try clear c35b0
                          try clear c35b1
                          try clear c37
                          try clear c38
                          try clear c38b0
                          try clear c38b1
                          try clear c39
                          try clear c39b0
                          try clear c39b1
                          try clear c40
                          try clear c40b0
                          try clear c40b1
                          try clear c51
                          try clear c53
                          try clear c53b0
                          try clear c53b1
                          try clear c54
                          try clear c56
                          try clear c56b0
                          try clear c56b1
                          try clear c58
                          try clear c58b0
                          try clear c58b1
                          try clear c58b2
                          try clear p64
                          try clear c65
                          try clear c65b0
                          try clear c65b1
                          try clear c69
                          try clear c69b0
                          try clear c69b1
                          try clear p2
                          obtain ⟨kq, x214_66, rfl, HA, HJ66, HO_3, HO_19, HO_25, HB⟩ := hcut
                          cases kq with
                          | zero => exact absurd HA.out (by simp [laws_FnHops.j3])
                          | succ kj66 =>
                            have H := HA.out
                            clear HA
                            simp only [laws_FnHops.j3] at H
                            by_cases c70 : x214_66 = true
                            · subst c70
                              have H1 : (some false) = some r := by rw [if_pos rfl] at H; exact H
                              clear H
                              have H := H1
                              clear H1
                              obtain rfl := Option.some.inj H
                              go_wp2
                              go_ret
                              exact ⟨by first | rfl | (simp [errW_none, errW_some] <;> rfl) | (simp [*, errW_none, errW_some] <;> rfl), by repeat (first | (with_reducible first | exact HB.out | apply below_alloc | apply pw_below_drewN | apply below_drew1) | exact HB.out)⟩
                            · replace c70 := Bool.eq_false_iff.mpr c70
                              subst c70
                              have H1 : (if t371 < 10 then ((impl_LastStop.f kj66 t367 (wrap64 (t371 + 1)) 0).bind fun bt391 => (if bt391.2 = 0 then (if bt391.1 ≤ t368 then (some false) else (laws_FnHops.j4 kj66 t343 t344 t345 t346 t349 t350 t375 t376 t377 t378 t381 t382)) else (some false))) else (laws_FnHops.j4 kj66 t343 t344 t345 t346 t349 t350 t375 t376 t377 t378 t381 t382)) = some r := by rw [if_neg (show ¬ (false = true) by decide)] at H; exact H
                              clear H
                              have H := H1
                              clear H1
                              by_cases c71 : t371 < 10
                              · rw [if_pos c71] at H
                                have c71b0 : decide (t371 < 10) = true := decide_eq_true c71
                                clear c71
                                replace H := Option.bind_eq_some_iff.mp H
                                obtain ⟨⟨t391, t392⟩, A720, H⟩ := H
                                replace H : (if t392 = 0 then (if t391 ≤ t368 then (some false) else (laws_FnHops.j4 kj66 t343 t344 t345 t346 t349 t350 t375 t376 t377 t378 t381 t382)) else (some false)) = some r := H
                                have A72 := Aside0.mk A720
                                clear A720
                                by_cases c73 : t392 = 0
                                · rw [if_pos c73] at H
                                  have c73b0 : (t392 == 0) = true := beq_iff_eq.mpr c73
                                  have c73b1 : (t392 != 0) = false := bne_eq_false_iff_eq.mpr c73
                                  clear c73
                                  by_cases c74 : t391 ≤ t368
                                  · rw [if_pos c74] at H
                                    have c74b0 : decide (t391 ≤ t368) = true := decide_eq_true c74
                                    clear c74
                                    obtain rfl := Option.some.inj H
                                    go_wp2_with (first | ((with_reducible refine gate_callee (f := 14) rfl ?_); refine goesL_ (some 221) rfl rfl Try.func14 (by kernel_rfl) rfl #[.slice Ao26 t367.length co26, .int .i64 (wrap64 (t371 + 1)), .int .i64 0] rfl (by (try simp only [List.map_toArray, List.map_cons, List.map_nil]); first | done | rfl | (simp only [List.length_drop, List.length_take]; rfl)) ?_; (with_reducible refine (impl_LastStop.calls kj66 _ _ t367 (wrap64 (t371 + 1)) 0 t391 t392 _ ?side1 ?side2 A72.out).mono ?_); (case side1 => repeat (first | exact (Kd.R_reads' HO_19.out).2.2 | (with_reducible refine Kd.C_alloc ?_ _) | (with_reducible refine Kd.C_drewN ?_ _) | (with_reducible refine Kd.C_drew ?_))); (case side2 => exact (Kd.R_reads' HO_19.out).2.1); rintro e w75 ⟨rfl, hb⟩; refine ⟨_, rfl, ?_⟩; have n0_ := Aside0.mk (Kd.R_below (by (with_reducible repeat (first | apply Kd.R_alloc | apply Kd.R_drewN | apply Kd.R_drew)); exact HO_3.out) hb); have n1_ := Aside0.mk (Kd.R_below (by (with_reducible repeat (first | apply Kd.R_alloc | apply Kd.R_drewN | apply Kd.R_drew)); exact HO_19.out) hb); have n2_ := Aside0.mk (Kd.R_below (by (with_reducible repeat (first | apply Kd.R_alloc | apply Kd.R_drewN | apply Kd.R_drew)); exact HO_25.out) hb); have n3_ := Aside0.mk (below_step (by repeat (first | (with_reducible first | exact HB.out | apply below_alloc | apply pw_below_drewN | apply below_drew1) | exact HB.out)) hb); clear HO_3; clear HO_19; clear HO_25; clear HB; have HO_3 := n0_; have HO_19 := n1_; have HO_25 := n2_; have HB := n3_; clear n0_ n1_ n2_ n3_; (try clear hb); (try clear hb2); (try clear hk); (try clear hi)))
                                    go_ret
                                    exact ⟨by first | rfl | (simp [errW_none, errW_some] <;> rfl) | (simp [*, errW_none, errW_some] <;> rfl), by repeat (first | (with_reducible first | exact HB.out | apply below_alloc | apply pw_below_drewN | apply below_drew1) | exact HB.out)⟩
                                  · rw [if_neg c74] at H
                                    have c74b0 : decide (t391 ≤ t368) = false := decide_eq_false c74
                                    clear c74
                                    have H' := Aside0.mk H
                                    clear H
                                    go_wp2_with (first | ((with_reducible refine gate_callee (f := 14) rfl ?_); refine goesL_ (some 221) rfl rfl Try.func14 (by kernel_rfl) rfl #[.slice Ao26 t367.length co26, .int .i64 (wrap64 (t371 + 1)), .int .i64 0] rfl (by (try simp only [List.map_toArray, List.map_cons, List.map_nil]); first | done | rfl | (simp only [List.length_drop, List.length_take]; rfl)) ?_; (with_reducible refine (impl_LastStop.calls kj66 _ _ t367 (wrap64 (t371 + 1)) 0 t391 t392 _ ?side1 ?side2 A72.out).mono ?_); (case side1 => repeat (first | exact (Kd.R_reads' HO_19.out).2.2 | (with_reducible refine Kd.C_alloc ?_ _) | (with_reducible refine Kd.C_drewN ?_ _) | (with_reducible refine Kd.C_drew ?_))); (case side2 => exact (Kd.R_reads' HO_19.out).2.1); rintro e w76 ⟨rfl, hb⟩; refine ⟨_, rfl, ?_⟩; have n0_ := Aside0.mk (Kd.R_below (by (with_reducible repeat (first | apply Kd.R_alloc | apply Kd.R_drewN | apply Kd.R_drew)); exact HO_3.out) hb); have n1_ := Aside0.mk (Kd.R_below (by (with_reducible repeat (first | apply Kd.R_alloc | apply Kd.R_drewN | apply Kd.R_drew)); exact HO_19.out) hb); have n2_ := Aside0.mk (Kd.R_below (by (with_reducible repeat (first | apply Kd.R_alloc | apply Kd.R_drewN | apply Kd.R_drew)); exact HO_25.out) hb); have n3_ := Aside0.mk (below_step (by repeat (first | (with_reducible first | exact HB.out | apply below_alloc | apply pw_below_drewN | apply below_drew1) | exact HB.out)) hb); clear HO_3; clear HO_19; clear HO_25; clear HB; have HO_3 := n0_; have HO_19 := n1_; have HO_25 := n2_; have HB := n3_; clear n0_ n1_ n2_ n3_; (try clear hb); (try clear hb2); (try clear hk); (try clear hi)))
                                    go_meet
                                    case rel => exact ⟨_, H', ⟨by have := HJ15.out; have := HK2.out; have := HJ51.out; have := HJ66.out; first | omega | exact Nat.le_refl _⟩, ⟨by (with_reducible repeat (first | apply Kd.R_alloc | apply Kd.R_drewN | apply Kd.R_drew)); exact Kd.R_mono HO_3.out (fun _ hk => hk.2)⟩, ⟨by (with_reducible repeat (first | apply Kd.R_alloc | apply Kd.R_drewN | apply Kd.R_drew)); exact Kd.R_mono HO_25.out (fun _ hk => hk.1)⟩, ⟨by repeat (first | (with_reducible first | exact HB.out | apply below_alloc | apply pw_below_drewN | apply below_drew1) | exact HB.out)⟩⟩
                                · rw [if_neg c73] at H
                                  have c73b0 : (t392 == 0) = false := beq_eq_false_iff_ne.mpr c73
                                  have c73b1 : (t392 != 0) = true := bne_iff_ne.mpr c73
                                  obtain rfl := Option.some.inj H
                                  go_wp2_with (first | ((with_reducible refine gate_callee (f := 14) rfl ?_); refine goesL_ (some 221) rfl rfl Try.func14 (by kernel_rfl) rfl #[.slice Ao26 t367.length co26, .int .i64 (wrap64 (t371 + 1)), .int .i64 0] rfl (by (try simp only [List.map_toArray, List.map_cons, List.map_nil]); first | done | rfl | (simp only [List.length_drop, List.length_take]; rfl)) ?_; (with_reducible refine (impl_LastStop.calls kj66 _ _ t367 (wrap64 (t371 + 1)) 0 t391 t392 _ ?side1 ?side2 A72.out).mono ?_); (case side1 => repeat (first | exact (Kd.R_reads' HO_19.out).2.2 | (with_reducible refine Kd.C_alloc ?_ _) | (with_reducible refine Kd.C_drewN ?_ _) | (with_reducible refine Kd.C_drew ?_))); (case side2 => exact (Kd.R_reads' HO_19.out).2.1); rintro e w77 ⟨rfl, hb⟩; refine ⟨_, rfl, ?_⟩; have n0_ := Aside0.mk (Kd.R_below (by (with_reducible repeat (first | apply Kd.R_alloc | apply Kd.R_drewN | apply Kd.R_drew)); exact HO_3.out) hb); have n1_ := Aside0.mk (Kd.R_below (by (with_reducible repeat (first | apply Kd.R_alloc | apply Kd.R_drewN | apply Kd.R_drew)); exact HO_19.out) hb); have n2_ := Aside0.mk (Kd.R_below (by (with_reducible repeat (first | apply Kd.R_alloc | apply Kd.R_drewN | apply Kd.R_drew)); exact HO_25.out) hb); have n3_ := Aside0.mk (below_step (by repeat (first | (with_reducible first | exact HB.out | apply below_alloc | apply pw_below_drewN | apply below_drew1) | exact HB.out)) hb); clear HO_3; clear HO_19; clear HO_25; clear HB; have HO_3 := n0_; have HO_19 := n1_; have HO_25 := n2_; have HB := n3_; clear n0_ n1_ n2_ n3_; (try clear hb); (try clear hb2); (try clear hk); (try clear hi)))
                                  go_ret
                                  exact ⟨by first | rfl | (simp [errW_none, errW_some] <;> rfl) | (simp [*, errW_none, errW_some] <;> rfl), by repeat (first | (with_reducible first | exact HB.out | apply below_alloc | apply pw_below_drewN | apply below_drew1) | exact HB.out)⟩
                              · rw [if_neg c71] at H
                                have c71b0 : decide (t371 < 10) = false := decide_eq_false c71
                                clear c71
                                have H' := Aside0.mk H
                                clear H
                                go_wp2
                                go_meet
                                case rel => exact ⟨_, H', ⟨by have := HJ15.out; have := HK2.out; have := HJ51.out; have := HJ66.out; first | omega | exact Nat.le_refl _⟩, ⟨by (with_reducible repeat (first | apply Kd.R_alloc | apply Kd.R_drewN | apply Kd.R_drew)); exact Kd.R_mono HO_3.out (fun _ hk => hk.2)⟩, ⟨by (with_reducible repeat (first | apply Kd.R_alloc | apply Kd.R_drewN | apply Kd.R_drew)); exact Kd.R_mono HO_25.out (fun _ hk => hk.1)⟩, ⟨by repeat (first | (with_reducible first | exact HB.out | apply below_alloc | apply pw_below_drewN | apply below_drew1) | exact HB.out)⟩⟩
                      · rw [if_neg c65] at H
                        have c65b0 : (t372 == 0) = false := beq_eq_false_iff_ne.mpr c65
                        have c65b1 : (t372 != 0) = true := bne_iff_ne.mpr c65
                        (first | rw [c65b0] | (simp only [i64_w, i32_w]; rw [c65b0]) | skip)
                        have H' := Aside0.mk H
                        clear H
                        go_wp2
                        go_meet
                        case rel => exact ⟨_, H', ⟨by have := HJ15.out; have := HK2.out; have := HJ51.out; first | omega | exact Nat.le_refl _⟩, ⟨by (with_reducible repeat (first | apply Kd.R_alloc | apply Kd.R_drewN | apply Kd.R_drew)); exact Kd.R_mono HO_3.out (fun _ hk => hk.2.2)⟩, ⟨by (with_reducible repeat (first | apply Kd.R_alloc | apply Kd.R_drewN | apply Kd.R_drew)); exact Kd.R_mono HO_25.out (fun _ hk => hk.1)⟩, ⟨by repeat (first | (with_reducible first | exact HB.out | apply below_alloc | apply pw_below_drewN | apply below_drew1) | exact HB.out)⟩⟩
                    case rest =>
                      clear HC64
                      try clear c1
                      try clear c2
                      try clear p2
                      try clear c3
                      try clear c4
                      try clear c5
                      try clear c6
                      try clear p6
                      try clear c7
                      try clear c14
                      try clear c16
                      try clear c17
                      try clear c18
                      try clear c19
                      try clear c24
                      try clear c25
                      try clear c26
                      try clear c27
                      try clear c28
                      try clear c29
                      try clear c30
                      try clear c31
                      try clear c32
                      try clear c33
                      try clear c33b0
                      try clear c33b1
                      try clear c34
                      try clear c34b0
                      try clear c34b1
                      try clear c35
                      try clear c35b0
                      try clear c35b1
                      try clear c37
                      try clear c38
                      try clear c38b0
                      try clear c38b1
                      try clear c39
                      try clear c39b0
                      try clear c39b1
                      try clear c40
                      try clear c40b0
                      try clear c40b1
                      try clear c51
                      try clear c53
                      try clear c53b0
                      try clear c53b1
                      try clear c54
                      try clear c56
                      try clear c56b0
                      try clear c56b1
                      try clear c58
                      try clear c58b0
                      try clear c58b1
                      try clear c58b2
                      try clear p64
                      try clear c65
                      try clear c65b0
                      try clear c65b1
                      try clear c69
                      try clear c69b0
                      try clear c69b1
                      try clear c70
                      try clear c71
                      try clear c71b0
                      try clear c73
                      try clear c73b0
                      try clear c73b1
                      try clear c74
                      try clear c74b0
                      try clear p2
                      try clear p6
                      try clear p64
                      obtain ⟨kq, HA, HJ63, HO_3, HO_25, HB⟩ := hcut
                      cases kq with
                      | zero => exact absurd HA.out (by simp [laws_FnHops.j4])
                      | succ kj63 =>
                        have H := HA.out
                        clear HA
                        simp only [laws_FnHops.j4] at H
                        by_cases c78 : t382 = 0
                        · as_aux_lemma =>
                          rw [if_pos c78] at H
                          have c78b0 : (t382 == 0) = true := beq_iff_eq.mpr c78
                          have c78b1 : (t382 != 0) = false := bne_eq_false_iff_eq.mpr c78
                          clear c78
                          replace H := Option.bind_eq_some_iff.mp H
                          obtain ⟨⟨t393, t394⟩, A790, H⟩ := H
                          replace H : (if t394 = 0 then (laws_FnHops.j5 kj63 t343 t344 t345 t346 t349 t350 (t393 != t378)) else (laws_FnHops.j5 kj63 t343 t344 t345 t346 t349 t350 true)) = some r := H
                          have A79 := Aside0.mk A790
                          clear A790
                          have HC80 := Aside0.mk H
                          clear H
                          go_upto_region 33 with (first | ((with_reducible refine gate_callee (f := 26) rfl ?_); refine goesL_ (some 238) rfl rfl Try.func26 (by kernel_rfl) rfl #[.slice Ao30 t375.length co30, .int .i64 t376, .int .i64 t381, .int .i64 t377] rfl (by (try simp only [List.map_toArray, List.map_cons, List.map_nil]); first | done | rfl | (simp only [List.length_drop, List.length_take]; rfl)) ?_; (with_reducible refine (impl_StopTick.calls kj63 _ _ t375 t376 t381 t377 t393 t394 _ ?side1 ?side2 A79.out).mono ?_); (case side1 => repeat (first | exact (Kd.R_reads' HO_25.out).2.2 | (with_reducible refine Kd.C_alloc ?_ _) | (with_reducible refine Kd.C_drewN ?_ _) | (with_reducible refine Kd.C_drew ?_))); (case side2 => exact (Kd.R_reads' HO_25.out).2.1); rintro e w81 ⟨rfl, hb⟩; refine ⟨_, rfl, ?_⟩; have n0_ := Aside0.mk (Kd.R_below (by (with_reducible repeat (first | apply Kd.R_alloc | apply Kd.R_drewN | apply Kd.R_drew)); exact HO_3.out) hb); have n1_ := Aside0.mk (Kd.R_below (by (with_reducible repeat (first | apply Kd.R_alloc | apply Kd.R_drewN | apply Kd.R_drew)); exact HO_25.out) hb); have n2_ := Aside0.mk (below_step (by repeat (first | (with_reducible first | exact HB.out | apply below_alloc | apply pw_below_drewN | apply below_drew1) | exact HB.out)) hb); clear HO_3; clear HO_25; clear HB; have HO_3 := n0_; have HO_25 := n1_; have HB := n2_; clear n0_ n1_ n2_; (try clear hb); (try clear hb2); (try clear hk); (try clear hi)))
                          (try simp only [Act.put, List.setIfInBounds_toArray, List.set_cons_zero, List.set_cons_succ])
                          go_cut [247] (fun v247 wc => ∃ (kq : Nat) (x247_79 : Bool), v247 = .bool x247_79 ∧ Aside0 (laws_FnHops.j5 kq t343 t344 t345 t346 t349 t350 x247_79 = some r) ∧ Aside0 (kq ≤ kj63) ∧ Aside0 (Kd.R k63 63 wc w.heap.size (fun _ => True) (.slice Ao18 t343.length co18) t343) ∧ Aside0 (Below w.heap.size w wc))
                          case first =>
                            have H := HC80.out
                            clear HC80
                            by_cases c82 : t394 = 0
                            · rw [if_pos c82] at H
                              have c82b0 : (t394 == 0) = true := beq_iff_eq.mpr c82
                              have c82b1 : (t394 != 0) = false := bne_eq_false_iff_eq.mpr c82
                              clear c82
                              (first | rw [c82b0] | (simp only [i64_w, i32_w]; rw [c82b0]) | skip)
                              have H' := Aside0.mk H
                              clear H
                              go_wp2
                              go_meet
                              case rel => exact ⟨_, ((t393 != t378)), (by first | rfl | (simp; done) | (simp [*]; done)), H', ⟨by have := HJ15.out; have := HK2.out; have := HJ51.out; have := HJ63.out; first | omega | exact Nat.le_refl _⟩, ⟨by (with_reducible repeat (first | apply Kd.R_alloc | apply Kd.R_drewN | apply Kd.R_drew)); exact Kd.R_mono HO_3.out (fun _ hk => trivial)⟩, ⟨by repeat (first | (with_reducible first | exact HB.out | apply below_alloc | apply pw_below_drewN | apply below_drew1) | exact HB.out)⟩⟩
                            · rw [if_neg c82] at H
                              have c82b0 : (t394 == 0) = false := beq_eq_false_iff_ne.mpr c82
                              have c82b1 : (t394 != 0) = true := bne_iff_ne.mpr c82
                              (first | rw [c82b0] | (simp only [i64_w, i32_w]; rw [c82b0]) | skip)
                              have H' := Aside0.mk H
                              clear H
                              go_wp2
                              go_meet
                              case rel => exact ⟨_, (true), (by first | rfl | (simp; done) | (simp [*]; done)), H', ⟨by have := HJ15.out; have := HK2.out; have := HJ51.out; have := HJ63.out; first | omega | exact Nat.le_refl _⟩, ⟨by (with_reducible repeat (first | apply Kd.R_alloc | apply Kd.R_drewN | apply Kd.R_drew)); exact Kd.R_mono HO_3.out (fun _ hk => trivial)⟩, ⟨by repeat (first | (with_reducible first | exact HB.out | apply below_alloc | apply pw_below_drewN | apply below_drew1) | exact HB.out)⟩⟩
                          case rest =>
                            clear HC80
                            try clear c1
                            try clear c2
                            try clear p2
                            try clear c3
                            try clear c4
                            try clear c5
                            try clear c6
                            try clear p6
                            try clear c7
                            try clear c8
                            try clear c14
                            try clear c16
                            try clear c17
                            try clear c18
                            try clear c19
                            try clear c24
                            try clear c25
                            try clear c26
                            try clear c27
                            try clear c28
                            try clear c29
                            try clear c30
                            try clear c31
                            try clear c32
                            try clear c33
                            try clear c33b0
                            try clear c33b1
                            try clear c34
                            try clear c34b0
                            try clear c34b1
                            try clear c35
                            try clear c35b0
                            try clear c35b1
                            try clear c37
                            try clear c38
                            try clear c38b0
                            try clear c38b1
                            try clear c39
                            try clear c39b0
                            try clear c39b1
                            try clear c40
                            try clear c40b0
                            try clear c40b1
                            try clear c51
                            try clear c53
                            try clear c53b0
                            try clear c53b1
                            try clear c54
                            try clear c56
                            try clear c56b0
                            try clear c56b1
                            try clear c58
                            try clear c58b0
                            try clear c58b1
                            try clear c58b2
                            try clear p64
                            try clear c65
                            try clear c65b0
                            try clear c65b1
                            try clear c69
                            try clear c69b0
                            try clear c69b1
                            try clear c70
                            try clear c71
                            try clear c71b0
                            try clear c73
                            try clear c73b0
                            try clear c73b1
                            try clear c74
                            try clear c74b0
                            try clear c78
                            try clear c78b0
                            try clear c78b1
                            try clear c82
                            try clear c82b0
                            try clear c82b1
                            try clear p2
                            try clear p6
                            try clear p64
                            obtain ⟨kq, x247_79, rfl, HA, HJ79, HO_3, HB⟩ := hcut
                            cases kq with
                            | zero => exact absurd HA.out (by simp [laws_FnHops.j5])
                            | succ kj79 =>
                              have H := HA.out
                              clear HA
                              simp only [laws_FnHops.j5] at H
                              by_cases c83 : x247_79 = true
                              · subst c83
                                have H1 : (some false) = some r := by rw [if_pos rfl] at H; exact H
                                clear H
                                have H := H1
                                clear H1
                                obtain rfl := Option.some.inj H
                                go_wp2
                                go_ret
                                exact ⟨by first | rfl | (simp [errW_none, errW_some] <;> rfl) | (simp [*, errW_none, errW_some] <;> rfl), by repeat (first | (with_reducible first | exact HB.out | apply below_alloc | apply pw_below_drewN | apply below_drew1) | exact HB.out)⟩
                              · replace c83 := Bool.eq_false_iff.mpr c83
                                subst c83
                                have H1 : (if t350 = 0 then ((impl_DepthOf.f kj79 t343 t346).bind fun bt395 => (if bt395.2 = 0 then (some (t349 == (wrap64 (t345 + (wrap64 (bt395.1 * t344)))))) else (some false))) else (some true)) = some r := by rw [if_neg (show ¬ (false = true) by decide)] at H; exact H
                                clear H
                                have H := H1
                                clear H1
                                by_cases c84 : t350 = 0
                                · rw [if_pos c84] at H
                                  have c84b0 : (t350 == 0) = true := beq_iff_eq.mpr c84
                                  have c84b1 : (t350 != 0) = false := bne_eq_false_iff_eq.mpr c84
                                  clear c84
                                  replace H := Option.bind_eq_some_iff.mp H
                                  obtain ⟨⟨t395, t396⟩, A850, H⟩ := H
                                  replace H : (if t396 = 0 then (some (t349 == (wrap64 (t345 + (wrap64 (t395 * t344)))))) else (some false)) = some r := H
                                  have A85 := Aside0.mk A850
                                  clear A850
                                  by_cases c86 : t396 = 0
                                  · rw [if_pos c86] at H
                                    have c86b0 : (t396 == 0) = true := beq_iff_eq.mpr c86
                                    have c86b1 : (t396 != 0) = false := bne_eq_false_iff_eq.mpr c86
                                    clear c86
                                    obtain rfl := Option.some.inj H
                                    go_wp2_with (first | ((with_reducible refine gate_callee (f := 35) rfl ?_); refine goesL_ (some 253) rfl rfl Try.func35 (by kernel_rfl) rfl #[.slice Ao18 t343.length co18, .int .i64 t346] rfl (by (try simp only [List.map_toArray, List.map_cons, List.map_nil]); first | done | rfl | (simp only [List.length_drop, List.length_take]; rfl)) ?_; (with_reducible refine (impl_DepthOf.calls kj79 _ _ t343 t346 t395 t396 _ ?side1 ?side2 A85.out).mono ?_); (case side1 => repeat (first | exact (Kd.R_reads' HO_3.out).2.2 | (with_reducible refine Kd.C_alloc ?_ _) | (with_reducible refine Kd.C_drewN ?_ _) | (with_reducible refine Kd.C_drew ?_))); (case side2 => exact (Kd.R_reads' HO_3.out).2.1); rintro e w87 ⟨rfl, hb⟩; refine ⟨_, rfl, ?_⟩; have n0_ := Aside0.mk (Kd.R_below (by (with_reducible repeat (first | apply Kd.R_alloc | apply Kd.R_drewN | apply Kd.R_drew)); exact HO_3.out) hb); have n1_ := Aside0.mk (below_step (by repeat (first | (with_reducible first | exact HB.out | apply below_alloc | apply pw_below_drewN | apply below_drew1) | exact HB.out)) hb); clear HO_3; clear HB; have HO_3 := n0_; have HB := n1_; clear n0_ n1_; (try clear hb); (try clear hb2); (try clear hk); (try clear hi)))
                                    go_ret
                                    exact ⟨by first | rfl | (simp [errW_none, errW_some] <;> rfl) | (simp [*, errW_none, errW_some] <;> rfl), by repeat (first | (with_reducible first | exact HB.out | apply below_alloc | apply pw_below_drewN | apply below_drew1) | exact HB.out)⟩
                                  · rw [if_neg c86] at H
                                    have c86b0 : (t396 == 0) = false := beq_eq_false_iff_ne.mpr c86
                                    have c86b1 : (t396 != 0) = true := bne_iff_ne.mpr c86
                                    obtain rfl := Option.some.inj H
                                    go_wp2_with (first | ((with_reducible refine gate_callee (f := 35) rfl ?_); refine goesL_ (some 253) rfl rfl Try.func35 (by kernel_rfl) rfl #[.slice Ao18 t343.length co18, .int .i64 t346] rfl (by (try simp only [List.map_toArray, List.map_cons, List.map_nil]); first | done | rfl | (simp only [List.length_drop, List.length_take]; rfl)) ?_; (with_reducible refine (impl_DepthOf.calls kj79 _ _ t343 t346 t395 t396 _ ?side1 ?side2 A85.out).mono ?_); (case side1 => repeat (first | exact (Kd.R_reads' HO_3.out).2.2 | (with_reducible refine Kd.C_alloc ?_ _) | (with_reducible refine Kd.C_drewN ?_ _) | (with_reducible refine Kd.C_drew ?_))); (case side2 => exact (Kd.R_reads' HO_3.out).2.1); rintro e w88 ⟨rfl, hb⟩; refine ⟨_, rfl, ?_⟩; have n0_ := Aside0.mk (Kd.R_below (by (with_reducible repeat (first | apply Kd.R_alloc | apply Kd.R_drewN | apply Kd.R_drew)); exact HO_3.out) hb); have n1_ := Aside0.mk (below_step (by repeat (first | (with_reducible first | exact HB.out | apply below_alloc | apply pw_below_drewN | apply below_drew1) | exact HB.out)) hb); clear HO_3; clear HB; have HO_3 := n0_; have HB := n1_; clear n0_ n1_; (try clear hb); (try clear hb2); (try clear hk); (try clear hi)))
                                    go_ret
                                    exact ⟨by first | rfl | (simp [errW_none, errW_some] <;> rfl) | (simp [*, errW_none, errW_some] <;> rfl), by repeat (first | (with_reducible first | exact HB.out | apply below_alloc | apply pw_below_drewN | apply below_drew1) | exact HB.out)⟩
                                · rw [if_neg c84] at H
                                  have c84b0 : (t350 == 0) = false := beq_eq_false_iff_ne.mpr c84
                                  have c84b1 : (t350 != 0) = true := bne_iff_ne.mpr c84
                                  obtain rfl := Option.some.inj H
                                  go_wp2
                                  go_ret
                                  exact ⟨by first | rfl | (simp [errW_none, errW_some] <;> rfl) | (simp [*, errW_none, errW_some] <;> rfl), by repeat (first | (with_reducible first | exact HB.out | apply below_alloc | apply pw_below_drewN | apply below_drew1) | exact HB.out)⟩
                        · rw [if_neg c78] at H
                          have c78b0 : (t382 == 0) = false := beq_eq_false_iff_ne.mpr c78
                          have c78b1 : (t382 != 0) = true := bne_iff_ne.mpr c78
                          by_cases c89 : t350 = 0
                          · rw [if_pos c89] at H
                            have c89b0 : (t350 == 0) = true := beq_iff_eq.mpr c89
                            have c89b1 : (t350 != 0) = false := bne_eq_false_iff_eq.mpr c89
                            clear c89
                            replace H := Option.bind_eq_some_iff.mp H
                            obtain ⟨⟨t397, t398⟩, A900, H⟩ := H
                            replace H : (if t398 = 0 then (some (t349 == (wrap64 (t345 + (wrap64 (t397 * t344)))))) else (some false)) = some r := H
                            have A90 := Aside0.mk A900
                            clear A900
                            by_cases c91 : t398 = 0
                            · rw [if_pos c91] at H
                              have c91b0 : (t398 == 0) = true := beq_iff_eq.mpr c91
                              have c91b1 : (t398 != 0) = false := bne_eq_false_iff_eq.mpr c91
                              clear c91
                              obtain rfl := Option.some.inj H
                              go_wp2_with (first | ((with_reducible refine gate_callee (f := 35) rfl ?_); refine goesL_ (some 253) rfl rfl Try.func35 (by kernel_rfl) rfl #[.slice Ao18 t343.length co18, .int .i64 t346] rfl (by (try simp only [List.map_toArray, List.map_cons, List.map_nil]); first | done | rfl | (simp only [List.length_drop, List.length_take]; rfl)) ?_; (with_reducible refine (impl_DepthOf.calls kj63 _ _ t343 t346 t397 t398 _ ?side1 ?side2 A90.out).mono ?_); (case side1 => repeat (first | exact (Kd.R_reads' HO_3.out).2.2 | (with_reducible refine Kd.C_alloc ?_ _) | (with_reducible refine Kd.C_drewN ?_ _) | (with_reducible refine Kd.C_drew ?_))); (case side2 => exact (Kd.R_reads' HO_3.out).2.1); rintro e w92 ⟨rfl, hb⟩; refine ⟨_, rfl, ?_⟩; have n0_ := Aside0.mk (Kd.R_below (by (with_reducible repeat (first | apply Kd.R_alloc | apply Kd.R_drewN | apply Kd.R_drew)); exact HO_3.out) hb); have n1_ := Aside0.mk (Kd.R_below (by (with_reducible repeat (first | apply Kd.R_alloc | apply Kd.R_drewN | apply Kd.R_drew)); exact HO_25.out) hb); have n2_ := Aside0.mk (below_step (by repeat (first | (with_reducible first | exact HB.out | apply below_alloc | apply pw_below_drewN | apply below_drew1) | exact HB.out)) hb); clear HO_3; clear HO_25; clear HB; have HO_3 := n0_; have HO_25 := n1_; have HB := n2_; clear n0_ n1_ n2_; (try clear hb); (try clear hb2); (try clear hk); (try clear hi)))
                              go_ret
                              exact ⟨by first | rfl | (simp [errW_none, errW_some] <;> rfl) | (simp [*, errW_none, errW_some] <;> rfl), by repeat (first | (with_reducible first | exact HB.out | apply below_alloc | apply pw_below_drewN | apply below_drew1) | exact HB.out)⟩
                            · rw [if_neg c91] at H
                              have c91b0 : (t398 == 0) = false := beq_eq_false_iff_ne.mpr c91
                              have c91b1 : (t398 != 0) = true := bne_iff_ne.mpr c91
                              obtain rfl := Option.some.inj H
                              go_wp2_with (first | ((with_reducible refine gate_callee (f := 35) rfl ?_); refine goesL_ (some 253) rfl rfl Try.func35 (by kernel_rfl) rfl #[.slice Ao18 t343.length co18, .int .i64 t346] rfl (by (try simp only [List.map_toArray, List.map_cons, List.map_nil]); first | done | rfl | (simp only [List.length_drop, List.length_take]; rfl)) ?_; (with_reducible refine (impl_DepthOf.calls kj63 _ _ t343 t346 t397 t398 _ ?side1 ?side2 A90.out).mono ?_); (case side1 => repeat (first | exact (Kd.R_reads' HO_3.out).2.2 | (with_reducible refine Kd.C_alloc ?_ _) | (with_reducible refine Kd.C_drewN ?_ _) | (with_reducible refine Kd.C_drew ?_))); (case side2 => exact (Kd.R_reads' HO_3.out).2.1); rintro e w93 ⟨rfl, hb⟩; refine ⟨_, rfl, ?_⟩; have n0_ := Aside0.mk (Kd.R_below (by (with_reducible repeat (first | apply Kd.R_alloc | apply Kd.R_drewN | apply Kd.R_drew)); exact HO_3.out) hb); have n1_ := Aside0.mk (Kd.R_below (by (with_reducible repeat (first | apply Kd.R_alloc | apply Kd.R_drewN | apply Kd.R_drew)); exact HO_25.out) hb); have n2_ := Aside0.mk (below_step (by repeat (first | (with_reducible first | exact HB.out | apply below_alloc | apply pw_below_drewN | apply below_drew1) | exact HB.out)) hb); clear HO_3; clear HO_25; clear HB; have HO_3 := n0_; have HO_25 := n1_; have HB := n2_; clear n0_ n1_ n2_; (try clear hb); (try clear hb2); (try clear hk); (try clear hi)))
                              go_ret
                              exact ⟨by first | rfl | (simp [errW_none, errW_some] <;> rfl) | (simp [*, errW_none, errW_some] <;> rfl), by repeat (first | (with_reducible first | exact HB.out | apply below_alloc | apply pw_below_drewN | apply below_drew1) | exact HB.out)⟩
                          · rw [if_neg c89] at H
                            have c89b0 : (t350 == 0) = false := beq_eq_false_iff_ne.mpr c89
                            have c89b1 : (t350 != 0) = true := bne_iff_ne.mpr c89
                            obtain rfl := Option.some.inj H
                            go_wp2
                            go_ret
                            exact ⟨by first | rfl | (simp [errW_none, errW_some] <;> rfl) | (simp [*, errW_none, errW_some] <;> rfl), by repeat (first | (with_reducible first | exact HB.out | apply below_alloc | apply pw_below_drewN | apply below_drew1) | exact HB.out)⟩

/-- THE ONE PURE STATEMENT of laws_FnHops: yours. -/
def laws_FnHops.Pure : Prop := ∀ (l0 : List Int), l0.length ≤ maxLen → l0.length * 1 ≤ 140737488351232 → (∀ x ∈ l0, (Lit.int .u8 x).wf = true) → ∃ k, laws_FnHops.f k l0 = some true
theorem laws_FnHops.walk (P : laws_FnHops.Pure) (a0 : Option Addr) (len0 cap0 : Nat) (z0 : List Int) (w : World) (w0 : (a0 = none ∧ len0 = 0 ∧ cap0 = 0 ∧ z0 = []) ∨ ∃ x, a0 = some x ∧ len0 ≤ cap0 ∧ cap0 ≤ maxLen ∧ z0.length = cap0 ∧ (∀ i, i < z0.length → w.cell? (x.add i) = some (.int .u8 (z0.getD i 0))) ∧ ∀ n ∈ z0, (Lit.int .u8 n).wf = true) (y0 : len0 * 1 ≤ 140737488351232) :
    Calls Try.prog 6 #[.slice a0 len0 cap0] w fun e w' => e = .returned (.bool true) ∧ Below w.heap.size w w' := by
  obtain ⟨l0, rfl, hr0, hm0, hw0, hc0⟩ := ReadsInt.ofRowC w0
  obtain ⟨k, h⟩ := P l0 hm0 y0 hw0
  refine (laws_FnHops.calls k _ _ l0 true w (Kd.C_of_reads (d := (0 : Int)) (h1 := fun _ => rfl) hr0) hc0 h).mono ?_
  rintro e w' ⟨rfl, hd⟩
  exact ⟨rfl, hd⟩

end Go.Proofs.Ytddejaomlnldiaa.PFnHops
