/- Functions and contracts that FnDepots reaches (11 of 11). -/
import Derived.Test.YtmhnkhealidjjaaQFnDepotsx9
namespace Go.Proofs.Ytmhnkhealidjjaa.PFnDepots
open Go.RowKit Go.Proofs.YtmhnkhealidjjaaW.PrintWords Go.Proofs.YtmhnkhealidjjaaW.PrintLast Go.Proofs.YtmhnkhealidjjaaW.PrintMore
attribute [local go_sem] max2_int min2_int max_two min_two max_three min_three max_four min_four   -- for this text's walks alone
set_option linter.unusedVariables false
set_option linter.unusedSimpArgs false

/-! ### laws_FnDepots: function 14 -/
mutual
def laws_FnDepots.j0 : Nat → List (S51) → Int → Int → Int → Int → List (List Int) → Int → List (S51) → Int → Int → List (S51) → Int → Int → Bool → Option (Bool)
 | 0, _, _, _, _, _, _, _, _, _, _, _, _, _, _ => none
 | k + 1, x3, x4, x5, x6, x7, x10, x11, x14, x16, x17, x18, x19, x22, x148 => if x148 = true then (some false) else (if x11 = 0 then (laws_FnDepots.j1 k x3 x4 x5 x6 x7 x14 x16 x17 x18 x19 (((x10.length : Int) == 0) != (decide (x4 ≤ x22)))) else (laws_FnDepots.j1 k x3 x4 x5 x6 x7 x14 x16 x17 x18 x19 false))
def laws_FnDepots.j1 : Nat → List (S51) → Int → Int → Int → Int → List (S51) → Int → Int → List (S51) → Int → Bool → Option (Bool)
 | 0, _, _, _, _, _, _, _, _, _, _, _ => none
 | k + 1, x3, x4, x5, x6, x7, x14, x16, x17, x18, x19, x159 => if x159 = true then (some false) else (if x19 = 0 then (laws_FnDepots.l0 k x3 x4 x5 x6 x7 x14 x16 x17 x18 0 0 0) else (laws_FnDepots.j3 k x3 x4 x5 x6 x7))
def laws_FnDepots.j3 : Nat → List (S51) → Int → Int → Int → Int → Option (Bool)
 | 0, _, _, _, _, _ => none
 | k + 1, x3, x4, x5, x6, x7 => if x7 = 0 then ((some (([] : List (S51)) : List (S51))).bind fun y416 => (if y416.length + x3.length < 5864062014805 then ((some (y416 ++ x3 : List (S51))).bind fun y419 => (if 0 ≤ x5 then (if x5 < (y419.length : Int) then ((some (y419.set (x5 : Int).toNat (⟨(rd_T51 y419 x5).f0, (rd_T51 y419 x5).f1, x6⟩ : S51) : List (S51))).bind fun y422 => ((impl_TooClose.f k y422 x4).bind fun bt423 => ((spec_TooClose.f k y422 x4).bind fun bt427 => (if bt423.2 = bt427.2 then ((laws_likeRows.f k bt423.1 bt427.1).bind fun t431 => (laws_FnDepots.j4 k x5 bt423.1 bt423.2 (!t431))) else (laws_FnDepots.j4 k x5 bt423.1 bt423.2 true))))) else (none)) else (none))) else (none))) else (some true)
def laws_FnDepots.j4 : Nat → Int → List (List Int) → Int → Bool → Option (Bool)
 | 0, _, _, _, _ => none
 | k + 1, x5, x30, x31, x235 => if x235 = true then (some false) else (laws_FnDepots.l1 k x5 x30 x31 0)
def laws_FnDepots.l1 : Nat → Int → List (List Int) → Int → Int → Option (Bool)
 | 0, _, _, _, _ => none
 | k + 1, x5, x30, x31, x34 => if x34 < (x30.length : Int) then (if 0 ≤ x34 then (if 0 < ((rd_L3 x30 x34).length : Int) then (if (rd (rd_L3 x30 x34) 0) = x5 then (some false) else (if 1 < ((rd_L3 x30 x34).length : Int) then (if (rd (rd_L3 x30 x34) 1) = x5 then (some false) else (laws_FnDepots.l1 k x5 x30 x31 (wrap64 (x34 + 1)))) else (none))) else (none)) else (none)) else (some (x31 == 0))
def laws_FnDepots.l0 : Nat → List (S51) → Int → Int → Int → Int → List (S51) → Int → Int → List (S51) → Int → Int → Int → Option (Bool)
 | 0, _, _, _, _, _, _, _, _, _, _, _, _ => none
 | k + 1, x3, x4, x5, x6, x7, x14, x16, x17, x18, x26, x27, x28 => if x28 < (x14.length : Int) then (if 0 ≤ x28 then (if x28 < (x18.length : Int) then (laws_FnDepots.l0 k x3 x4 x5 x6 x7 x14 x16 x17 x18 (wrap64 (x26 + ((rd_T51 x14 x28).f2))) (wrap64 (x27 + ((rd_T51 x18 x28).f2))) (wrap64 (x28 + 1))) else (none)) else (none)) else (if x26 = x27 then ((impl_AreDepots.f k x18).bind fun t413 => (if t413 = true then (if 0 ≤ x16 then (if x16 < (x18.length : Int) then (if x16 < (x14.length : Int) then (if ((rd_T51 x18 x16).f2) = (wrap64 (((rd_T51 x14 x16).f2) + x17)) then (laws_FnDepots.j3 k x3 x4 x5 x6 x7) else (some false)) else (none)) else (none)) else (none)) else (some false))) else (some false))
end
def laws_FnDepots.f (k : Nat) (l0 : List Int) : Option (Bool) := (laws_big.f l0).bind fun t372 => (if t372 = true then (some true) else ((spec_DrawLimitOf.f k l0).bind fun bt373 => ((impl_LimitOf.f k bt373.1 bt373.2.1 bt373.2.2).bind fun bt378 => ((spec_LimitOf.f k bt373.1 bt373.2.1 bt373.2.2).bind fun bt380 => ((impl_TooClose.f k bt373.1 bt373.2.1).bind fun bt382 => ((spec_TooClose.f k bt373.1 bt373.2.1).bind fun bt386 => ((spec_DrawMoveGrams.f k l0).bind fun bt390 => ((impl_MoveGrams.f k bt390.1 bt390.2.1 bt390.2.2.1 bt390.2.2.2).bind fun bt396 => ((spec_MoveGrams.f k bt390.1 bt390.2.1 bt390.2.2.1 bt390.2.2.2).bind fun bt400 => ((impl_GreatestFactor.f k bt373.1).bind fun bt404 => ((spec_GreatestFactor.f k bt373.1).bind fun bt406 => (if bt378.2 = bt380.2 then (if bt378.1 = bt380.1 then (if bt382.2 = bt386.2 then ((laws_likeRows.f k bt382.1 bt386.1).bind fun t408 => (if t408 = true then (if bt396.2 = bt400.2 then ((laws_likeDepots.f k bt396.1 bt400.1).bind fun t409 => (if t409 = true then (if bt404.2 = bt406.2 then (if bt404.1 = bt406.1 then ((impl_AreDepots.f k bt373.1).bind fun t410 => (laws_FnDepots.j0 k bt373.1 bt373.2.1 bt373.2.2 bt378.1 bt378.2 bt382.1 bt382.2 bt390.1 bt390.2.2.1 bt390.2.2.2 bt396.1 bt396.2 bt404.1 (t410 != (bt406.2 == 0)))) else (laws_FnDepots.j0 k bt373.1 bt373.2.1 bt373.2.2 bt378.1 bt378.2 bt382.1 bt382.2 bt390.1 bt390.2.2.1 bt390.2.2.2 bt396.1 bt396.2 bt404.1 true)) else (laws_FnDepots.j0 k bt373.1 bt373.2.1 bt373.2.2 bt378.1 bt378.2 bt382.1 bt382.2 bt390.1 bt390.2.2.1 bt390.2.2.2 bt396.1 bt396.2 bt404.1 true)) else (laws_FnDepots.j0 k bt373.1 bt373.2.1 bt373.2.2 bt378.1 bt378.2 bt382.1 bt382.2 bt390.1 bt390.2.2.1 bt390.2.2.2 bt396.1 bt396.2 bt404.1 true))) else (laws_FnDepots.j0 k bt373.1 bt373.2.1 bt373.2.2 bt378.1 bt378.2 bt382.1 bt382.2 bt390.1 bt390.2.2.1 bt390.2.2.2 bt396.1 bt396.2 bt404.1 true)) else (laws_FnDepots.j0 k bt373.1 bt373.2.1 bt373.2.2 bt378.1 bt378.2 bt382.1 bt382.2 bt390.1 bt390.2.2.1 bt390.2.2.2 bt396.1 bt396.2 bt404.1 true))) else (laws_FnDepots.j0 k bt373.1 bt373.2.1 bt373.2.2 bt378.1 bt378.2 bt382.1 bt382.2 bt390.1 bt390.2.2.1 bt390.2.2.2 bt396.1 bt396.2 bt404.1 true)) else (laws_FnDepots.j0 k bt373.1 bt373.2.1 bt373.2.2 bt378.1 bt378.2 bt382.1 bt382.2 bt390.1 bt390.2.2.1 bt390.2.2.2 bt396.1 bt396.2 bt404.1 true)) else (laws_FnDepots.j0 k bt373.1 bt373.2.1 bt373.2.2 bt378.1 bt378.2 bt382.1 bt382.2 bt390.1 bt390.2.2.1 bt390.2.2.2 bt396.1 bt396.2 bt404.1 true)))))))))))))
theorem laws_FnDepots.mono_l : ∀ k, (∀ y0 y1 y2 y3 y4 y5 y6 y7 y8 y9 y10 y11 y12 y13, LeO (laws_FnDepots.j0 k y0 y1 y2 y3 y4 y5 y6 y7 y8 y9 y10 y11 y12 y13) (laws_FnDepots.j0 (k + 1) y0 y1 y2 y3 y4 y5 y6 y7 y8 y9 y10 y11 y12 y13)) ∧ (∀ y0 y1 y2 y3 y4 y5 y6 y7 y8 y9 y10, LeO (laws_FnDepots.j1 k y0 y1 y2 y3 y4 y5 y6 y7 y8 y9 y10) (laws_FnDepots.j1 (k + 1) y0 y1 y2 y3 y4 y5 y6 y7 y8 y9 y10)) ∧ (∀ y0 y1 y2 y3 y4, LeO (laws_FnDepots.j3 k y0 y1 y2 y3 y4) (laws_FnDepots.j3 (k + 1) y0 y1 y2 y3 y4)) ∧ (∀ y0 y1 y2 y3, LeO (laws_FnDepots.j4 k y0 y1 y2 y3) (laws_FnDepots.j4 (k + 1) y0 y1 y2 y3)) ∧ (∀ y0 y1 y2 y3, LeO (laws_FnDepots.l1 k y0 y1 y2 y3) (laws_FnDepots.l1 (k + 1) y0 y1 y2 y3)) ∧ (∀ y0 y1 y2 y3 y4 y5 y6 y7 y8 y9 y10 y11, LeO (laws_FnDepots.l0 k y0 y1 y2 y3 y4 y5 y6 y7 y8 y9 y10 y11) (laws_FnDepots.l0 (k + 1) y0 y1 y2 y3 y4 y5 y6 y7 y8 y9 y10 y11))
 | 0 => ⟨fun _ _ _ _ _ _ _ _ _ _ _ _ _ _ r h => by simp [laws_FnDepots.j0] at h, fun _ _ _ _ _ _ _ _ _ _ _ r h => by simp [laws_FnDepots.j1] at h, fun _ _ _ _ _ r h => by simp [laws_FnDepots.j3] at h, fun _ _ _ _ r h => by simp [laws_FnDepots.j4] at h, fun _ _ _ _ r h => by simp [laws_FnDepots.l1] at h, fun _ _ _ _ _ _ _ _ _ _ _ _ r h => by simp [laws_FnDepots.l0] at h⟩
 | k + 1 => by
  obtain ⟨ih0, ih1, ih2, ih3, ih4, ih5⟩ := laws_FnDepots.mono_l k
  refine ⟨?_, ?_, ?_, ?_, ?_, ?_⟩
  ·as_aux_lemma =>
   intro y0 y1 y2 y3 y4 y5 y6 y7 y8 y9 y10 y11 y12 y13
   unfold laws_FnDepots.j0
   repeat' first
   | (with_reducible exact ih0 _ _ _ _ _ _ _ _ _ _ _ _ _ _)
   | (with_reducible exact ih1 _ _ _ _ _ _ _ _ _ _ _)
   | (with_reducible exact ih2 _ _ _ _ _)
   | (with_reducible exact ih3 _ _ _ _)
   | (with_reducible exact ih4 _ _ _ _)
   | (with_reducible exact ih5 _ _ _ _ _ _ _ _ _ _ _ _)
   | (with_reducible exact impl_AreDepots.mono _ _)
   | (with_reducible exact impl_GreatestFactor.mono _ _)
   | (with_reducible exact impl_LimitOf.mono _ _ _ _)
   | (with_reducible exact impl_MoveGrams.mono _ _ _ _ _)
   | (with_reducible exact impl_TooClose.mono _ _ _)
   | (with_reducible exact laws_likeDepots.mono _ _ _)
   | (with_reducible exact laws_likeRows.mono _ _ _)
   | (with_reducible exact spec_DrawLimitOf.mono _ _)
   | (with_reducible exact spec_DrawMoveGrams.mono _ _)
   | (with_reducible exact spec_GreatestFactor.mono _ _)
   | (with_reducible exact spec_LimitOf.mono _ _ _ _)
   | (with_reducible exact spec_MoveGrams.mono _ _ _ _ _)
   | (with_reducible exact spec_TooClose.mono _ _ _)
   | (with_reducible exact LeO.refl _)
   | (with_reducible exact LeO.none _)
   | (with_reducible refine LeO.ite ?_ ?_)
   | (with_reducible refine LeO.bind ?_ (fun _ => ?_))
   | exact ih0 _ _ _ _ _ _ _ _ _ _ _ _ _ _
   | exact ih1 _ _ _ _ _ _ _ _ _ _ _
   | exact ih2 _ _ _ _ _
   | exact ih3 _ _ _ _
   | exact ih4 _ _ _ _
   | exact ih5 _ _ _ _ _ _ _ _ _ _ _ _
   | exact impl_AreDepots.mono _ _
   | exact impl_GreatestFactor.mono _ _
   | exact impl_LimitOf.mono _ _ _ _
   | exact impl_MoveGrams.mono _ _ _ _ _
   | exact impl_TooClose.mono _ _ _
   | exact laws_likeDepots.mono _ _ _
   | exact laws_likeRows.mono _ _ _
   | exact spec_DrawLimitOf.mono _ _
   | exact spec_DrawMoveGrams.mono _ _
   | exact spec_GreatestFactor.mono _ _
   | exact spec_LimitOf.mono _ _ _ _
   | exact spec_MoveGrams.mono _ _ _ _ _
   | exact spec_TooClose.mono _ _ _
   | exact LeO.none _
   | refine LeO.ite ?_ ?_
   | refine LeO.bind ?_ (fun _ => ?_)
  ·as_aux_lemma =>
   intro y0 y1 y2 y3 y4 y5 y6 y7 y8 y9 y10
   unfold laws_FnDepots.j1
   repeat' first
   | (with_reducible exact ih0 _ _ _ _ _ _ _ _ _ _ _ _ _ _)
   | (with_reducible exact ih1 _ _ _ _ _ _ _ _ _ _ _)
   | (with_reducible exact ih2 _ _ _ _ _)
   | (with_reducible exact ih3 _ _ _ _)
   | (with_reducible exact ih4 _ _ _ _)
   | (with_reducible exact ih5 _ _ _ _ _ _ _ _ _ _ _ _)
   | (with_reducible exact impl_AreDepots.mono _ _)
   | (with_reducible exact impl_GreatestFactor.mono _ _)
   | (with_reducible exact impl_LimitOf.mono _ _ _ _)
   | (with_reducible exact impl_MoveGrams.mono _ _ _ _ _)
   | (with_reducible exact impl_TooClose.mono _ _ _)
   | (with_reducible exact laws_likeDepots.mono _ _ _)
   | (with_reducible exact laws_likeRows.mono _ _ _)
   | (with_reducible exact spec_DrawLimitOf.mono _ _)
   | (with_reducible exact spec_DrawMoveGrams.mono _ _)
   | (with_reducible exact spec_GreatestFactor.mono _ _)
   | (with_reducible exact spec_LimitOf.mono _ _ _ _)
   | (with_reducible exact spec_MoveGrams.mono _ _ _ _ _)
   | (with_reducible exact spec_TooClose.mono _ _ _)
   | (with_reducible exact LeO.refl _)
   | (with_reducible exact LeO.none _)
   | (with_reducible refine LeO.ite ?_ ?_)
   | (with_reducible refine LeO.bind ?_ (fun _ => ?_))
   | exact ih0 _ _ _ _ _ _ _ _ _ _ _ _ _ _
   | exact ih1 _ _ _ _ _ _ _ _ _ _ _
   | exact ih2 _ _ _ _ _
   | exact ih3 _ _ _ _
   | exact ih4 _ _ _ _
   | exact ih5 _ _ _ _ _ _ _ _ _ _ _ _
   | exact impl_AreDepots.mono _ _
   | exact impl_GreatestFactor.mono _ _
   | exact impl_LimitOf.mono _ _ _ _
   | exact impl_MoveGrams.mono _ _ _ _ _
   | exact impl_TooClose.mono _ _ _
   | exact laws_likeDepots.mono _ _ _
   | exact laws_likeRows.mono _ _ _
   | exact spec_DrawLimitOf.mono _ _
   | exact spec_DrawMoveGrams.mono _ _
   | exact spec_GreatestFactor.mono _ _
   | exact spec_LimitOf.mono _ _ _ _
   | exact spec_MoveGrams.mono _ _ _ _ _
   | exact spec_TooClose.mono _ _ _
   | exact LeO.none _
   | refine LeO.ite ?_ ?_
   | refine LeO.bind ?_ (fun _ => ?_)
  ·as_aux_lemma =>
   intro y0 y1 y2 y3 y4
   unfold laws_FnDepots.j3
   repeat' first
   | (with_reducible exact ih0 _ _ _ _ _ _ _ _ _ _ _ _ _ _)
   | (with_reducible exact ih1 _ _ _ _ _ _ _ _ _ _ _)
   | (with_reducible exact ih2 _ _ _ _ _)
   | (with_reducible exact ih3 _ _ _ _)
   | (with_reducible exact ih4 _ _ _ _)
   | (with_reducible exact ih5 _ _ _ _ _ _ _ _ _ _ _ _)
   | (with_reducible exact impl_AreDepots.mono _ _)
   | (with_reducible exact impl_GreatestFactor.mono _ _)
   | (with_reducible exact impl_LimitOf.mono _ _ _ _)
   | (with_reducible exact impl_MoveGrams.mono _ _ _ _ _)
   | (with_reducible exact impl_TooClose.mono _ _ _)
   | (with_reducible exact laws_likeDepots.mono _ _ _)
   | (with_reducible exact laws_likeRows.mono _ _ _)
   | (with_reducible exact spec_DrawLimitOf.mono _ _)
   | (with_reducible exact spec_DrawMoveGrams.mono _ _)
   | (with_reducible exact spec_GreatestFactor.mono _ _)
   | (with_reducible exact spec_LimitOf.mono _ _ _ _)
   | (with_reducible exact spec_MoveGrams.mono _ _ _ _ _)
   | (with_reducible exact spec_TooClose.mono _ _ _)
   | (with_reducible exact LeO.refl _)
   | (with_reducible exact LeO.none _)
   | (with_reducible refine LeO.ite ?_ ?_)
   | (with_reducible refine LeO.bind ?_ (fun _ => ?_))
   | exact ih0 _ _ _ _ _ _ _ _ _ _ _ _ _ _
   | exact ih1 _ _ _ _ _ _ _ _ _ _ _
   | exact ih2 _ _ _ _ _
   | exact ih3 _ _ _ _
   | exact ih4 _ _ _ _
   | exact ih5 _ _ _ _ _ _ _ _ _ _ _ _
   | exact impl_AreDepots.mono _ _
   | exact impl_GreatestFactor.mono _ _
   | exact impl_LimitOf.mono _ _ _ _
   | exact impl_MoveGrams.mono _ _ _ _ _
   | exact impl_TooClose.mono _ _ _
   | exact laws_likeDepots.mono _ _ _
   | exact laws_likeRows.mono _ _ _
   | exact spec_DrawLimitOf.mono _ _
   | exact spec_DrawMoveGrams.mono _ _
   | exact spec_GreatestFactor.mono _ _
   | exact spec_LimitOf.mono _ _ _ _
   | exact spec_MoveGrams.mono _ _ _ _ _
   | exact spec_TooClose.mono _ _ _
   | exact LeO.none _
   | refine LeO.ite ?_ ?_
   | refine LeO.bind ?_ (fun _ => ?_)
  ·as_aux_lemma =>
   intro y0 y1 y2 y3
   unfold laws_FnDepots.j4
   repeat' first
   | (with_reducible exact ih0 _ _ _ _ _ _ _ _ _ _ _ _ _ _)
   | (with_reducible exact ih1 _ _ _ _ _ _ _ _ _ _ _)
   | (with_reducible exact ih2 _ _ _ _ _)
   | (with_reducible exact ih3 _ _ _ _)
   | (with_reducible exact ih4 _ _ _ _)
   | (with_reducible exact ih5 _ _ _ _ _ _ _ _ _ _ _ _)
   | (with_reducible exact impl_AreDepots.mono _ _)
   | (with_reducible exact impl_GreatestFactor.mono _ _)
   | (with_reducible exact impl_LimitOf.mono _ _ _ _)
   | (with_reducible exact impl_MoveGrams.mono _ _ _ _ _)
   | (with_reducible exact impl_TooClose.mono _ _ _)
   | (with_reducible exact laws_likeDepots.mono _ _ _)
   | (with_reducible exact laws_likeRows.mono _ _ _)
   | (with_reducible exact spec_DrawLimitOf.mono _ _)
   | (with_reducible exact spec_DrawMoveGrams.mono _ _)
   | (with_reducible exact spec_GreatestFactor.mono _ _)
   | (with_reducible exact spec_LimitOf.mono _ _ _ _)
   | (with_reducible exact spec_MoveGrams.mono _ _ _ _ _)
   | (with_reducible exact spec_TooClose.mono _ _ _)
   | (with_reducible exact LeO.refl _)
   | (with_reducible exact LeO.none _)
   | (with_reducible refine LeO.ite ?_ ?_)
   | (with_reducible refine LeO.bind ?_ (fun _ => ?_))
   | exact ih0 _ _ _ _ _ _ _ _ _ _ _ _ _ _
   | exact ih1 _ _ _ _ _ _ _ _ _ _ _
   | exact ih2 _ _ _ _ _
   | exact ih3 _ _ _ _
   | exact ih4 _ _ _ _
   | exact ih5 _ _ _ _ _ _ _ _ _ _ _ _
   | exact impl_AreDepots.mono _ _
   | exact impl_GreatestFactor.mono _ _
   | exact impl_LimitOf.mono _ _ _ _
   | exact impl_MoveGrams.mono _ _ _ _ _
   | exact impl_TooClose.mono _ _ _
   | exact laws_likeDepots.mono _ _ _
   | exact laws_likeRows.mono _ _ _
   | exact spec_DrawLimitOf.mono _ _
   | exact spec_DrawMoveGrams.mono _ _
   | exact spec_GreatestFactor.mono _ _
   | exact spec_LimitOf.mono _ _ _ _
   | exact spec_MoveGrams.mono _ _ _ _ _
   | exact spec_TooClose.mono _ _ _
   | exact LeO.none _
   | refine LeO.ite ?_ ?_
   | refine LeO.bind ?_ (fun _ => ?_)
  ·as_aux_lemma =>
   intro y0 y1 y2 y3
   unfold laws_FnDepots.l1
   repeat' first
   | (with_reducible exact ih0 _ _ _ _ _ _ _ _ _ _ _ _ _ _)
   | (with_reducible exact ih1 _ _ _ _ _ _ _ _ _ _ _)
   | (with_reducible exact ih2 _ _ _ _ _)
   | (with_reducible exact ih3 _ _ _ _)
   | (with_reducible exact ih4 _ _ _ _)
   | (with_reducible exact ih5 _ _ _ _ _ _ _ _ _ _ _ _)
   | (with_reducible exact impl_AreDepots.mono _ _)
   | (with_reducible exact impl_GreatestFactor.mono _ _)
   | (with_reducible exact impl_LimitOf.mono _ _ _ _)
   | (with_reducible exact impl_MoveGrams.mono _ _ _ _ _)
   | (with_reducible exact impl_TooClose.mono _ _ _)
   | (with_reducible exact laws_likeDepots.mono _ _ _)
   | (with_reducible exact laws_likeRows.mono _ _ _)
   | (with_reducible exact spec_DrawLimitOf.mono _ _)
   | (with_reducible exact spec_DrawMoveGrams.mono _ _)
   | (with_reducible exact spec_GreatestFactor.mono _ _)
   | (with_reducible exact spec_LimitOf.mono _ _ _ _)
   | (with_reducible exact spec_MoveGrams.mono _ _ _ _ _)
   | (with_reducible exact spec_TooClose.mono _ _ _)
   | (with_reducible exact LeO.refl _)
   | (with_reducible exact LeO.none _)
   | (with_reducible refine LeO.ite ?_ ?_)
   | (with_reducible refine LeO.bind ?_ (fun _ => ?_))
   | exact ih0 _ _ _ _ _ _ _ _ _ _ _ _ _ _
   | exact ih1 _ _ _ _ _ _ _ _ _ _ _
   | exact ih2 _ _ _ _ _
   | exact ih3 _ _ _ _
   | exact ih4 _ _ _ _
   | exact ih5 _ _ _ _ _ _ _ _ _ _ _ _
   | exact impl_AreDepots.mono _ _
   | exact impl_GreatestFactor.mono _ _
   | exact impl_LimitOf.mono _ _ _ _
   | exact impl_MoveGrams.mono _ _ _ _ _
   | exact impl_TooClose.mono _ _ _
   | exact laws_likeDepots.mono _ _ _
   | exact laws_likeRows.mono _ _ _
   | exact spec_DrawLimitOf.mono _ _
   | exact spec_DrawMoveGrams.mono _ _
   | exact spec_GreatestFactor.mono _ _
   | exact spec_LimitOf.mono _ _ _ _
   | exact spec_MoveGrams.mono _ _ _ _ _
   | exact spec_TooClose.mono _ _ _
   | exact LeO.none _
   | refine LeO.ite ?_ ?_
   | refine LeO.bind ?_ (fun _ => ?_)
  ·as_aux_lemma =>
   intro y0 y1 y2 y3 y4 y5 y6 y7 y8 y9 y10 y11
   unfold laws_FnDepots.l0
   repeat' first
   | (with_reducible exact ih0 _ _ _ _ _ _ _ _ _ _ _ _ _ _)
   | (with_reducible exact ih1 _ _ _ _ _ _ _ _ _ _ _)
   | (with_reducible exact ih2 _ _ _ _ _)
   | (with_reducible exact ih3 _ _ _ _)
   | (with_reducible exact ih4 _ _ _ _)
   | (with_reducible exact ih5 _ _ _ _ _ _ _ _ _ _ _ _)
   | (with_reducible exact impl_AreDepots.mono _ _)
   | (with_reducible exact impl_GreatestFactor.mono _ _)
   | (with_reducible exact impl_LimitOf.mono _ _ _ _)
   | (with_reducible exact impl_MoveGrams.mono _ _ _ _ _)
   | (with_reducible exact impl_TooClose.mono _ _ _)
   | (with_reducible exact laws_likeDepots.mono _ _ _)
   | (with_reducible exact laws_likeRows.mono _ _ _)
   | (with_reducible exact spec_DrawLimitOf.mono _ _)
   | (with_reducible exact spec_DrawMoveGrams.mono _ _)
   | (with_reducible exact spec_GreatestFactor.mono _ _)
   | (with_reducible exact spec_LimitOf.mono _ _ _ _)
   | (with_reducible exact spec_MoveGrams.mono _ _ _ _ _)
   | (with_reducible exact spec_TooClose.mono _ _ _)
   | (with_reducible exact LeO.refl _)
   | (with_reducible exact LeO.none _)
   | (with_reducible refine LeO.ite ?_ ?_)
   | (with_reducible refine LeO.bind ?_ (fun _ => ?_))
   | exact ih0 _ _ _ _ _ _ _ _ _ _ _ _ _ _
   | exact ih1 _ _ _ _ _ _ _ _ _ _ _
   | exact ih2 _ _ _ _ _
   | exact ih3 _ _ _ _
   | exact ih4 _ _ _ _
   | exact ih5 _ _ _ _ _ _ _ _ _ _ _ _
   | exact impl_AreDepots.mono _ _
   | exact impl_GreatestFactor.mono _ _
   | exact impl_LimitOf.mono _ _ _ _
   | exact impl_MoveGrams.mono _ _ _ _ _
   | exact impl_TooClose.mono _ _ _
   | exact laws_likeDepots.mono _ _ _
   | exact laws_likeRows.mono _ _ _
   | exact spec_DrawLimitOf.mono _ _
   | exact spec_DrawMoveGrams.mono _ _
   | exact spec_GreatestFactor.mono _ _
   | exact spec_LimitOf.mono _ _ _ _
   | exact spec_MoveGrams.mono _ _ _ _ _
   | exact spec_TooClose.mono _ _ _
   | exact LeO.none _
   | refine LeO.ite ?_ ?_
   | refine LeO.bind ?_ (fun _ => ?_)
theorem laws_FnDepots.mono : ∀ a0 k, LeO (laws_FnDepots.f k a0) (laws_FnDepots.f (k + 1) a0) := by
 intro a0 k
 obtain ⟨ih0, ih1, ih2, ih3, ih4, ih5⟩ := laws_FnDepots.mono_l k
 unfold laws_FnDepots.f
 repeat' first
   | (with_reducible exact ih0 _ _ _ _ _ _ _ _ _ _ _ _ _ _)
   | (with_reducible exact ih1 _ _ _ _ _ _ _ _ _ _ _)
   | (with_reducible exact ih2 _ _ _ _ _)
   | (with_reducible exact ih3 _ _ _ _)
   | (with_reducible exact ih4 _ _ _ _)
   | (with_reducible exact ih5 _ _ _ _ _ _ _ _ _ _ _ _)
   | (with_reducible exact impl_AreDepots.mono _ _)
   | (with_reducible exact impl_GreatestFactor.mono _ _)
   | (with_reducible exact impl_LimitOf.mono _ _ _ _)
   | (with_reducible exact impl_MoveGrams.mono _ _ _ _ _)
   | (with_reducible exact impl_TooClose.mono _ _ _)
   | (with_reducible exact laws_likeDepots.mono _ _ _)
   | (with_reducible exact laws_likeRows.mono _ _ _)
   | (with_reducible exact spec_DrawLimitOf.mono _ _)
   | (with_reducible exact spec_DrawMoveGrams.mono _ _)
   | (with_reducible exact spec_GreatestFactor.mono _ _)
   | (with_reducible exact spec_LimitOf.mono _ _ _ _)
   | (with_reducible exact spec_MoveGrams.mono _ _ _ _ _)
   | (with_reducible exact spec_TooClose.mono _ _ _)
   | (with_reducible exact LeO.refl _)
   | (with_reducible exact LeO.none _)
   | (with_reducible refine LeO.ite ?_ ?_)
   | (with_reducible refine LeO.bind ?_ (fun _ => ?_))
   | exact ih0 _ _ _ _ _ _ _ _ _ _ _ _ _ _
   | exact ih1 _ _ _ _ _ _ _ _ _ _ _
   | exact ih2 _ _ _ _ _
   | exact ih3 _ _ _ _
   | exact ih4 _ _ _ _
   | exact ih5 _ _ _ _ _ _ _ _ _ _ _ _
   | exact impl_AreDepots.mono _ _
   | exact impl_GreatestFactor.mono _ _
   | exact impl_LimitOf.mono _ _ _ _
   | exact impl_MoveGrams.mono _ _ _ _ _
   | exact impl_TooClose.mono _ _ _
   | exact laws_likeDepots.mono _ _ _
   | exact laws_likeRows.mono _ _ _
   | exact spec_DrawLimitOf.mono _ _
   | exact spec_DrawMoveGrams.mono _ _
   | exact spec_GreatestFactor.mono _ _
   | exact spec_LimitOf.mono _ _ _ _
   | exact spec_MoveGrams.mono _ _ _ _ _
   | exact spec_TooClose.mono _ _ _
   | exact LeO.none _
   | refine LeO.ite ?_ ?_
   | refine LeO.bind ?_ (fun _ => ?_)
def laws_FnDepots.T24 : Bool × List (List Nat × List Nat) := (true, [([], []), ([], []), ([0, 1], [0, 1]), ([2], [2]), ([3], [3]), ([4, 3, 3], [3, 4]), ([5, 3], [3, 5]), ([3, 6], [3, 6]), ([7, 5], [7]), ([8], [8]), ([8], [8]), ([9, 10, 8], [8, 9, 10]), ([11, 8], [8, 11]), ([12, 8], [8, 12]), ([8], [8]), ([8], [8]), ([14, 15, 8], [8, 14, 15]), ([16, 8], [8, 16]), ([17, 8], [8, 17]), ([8], [8]), ([18, 19, 8], [8, 18, 19]), ([13, 20, 8], [8, 13, 20]), ([8, 21], [8, 21])])
def laws_FnDepots.B24 : List Nat := [0, 0, 3, 7, 15, 31, 63, 127, 255, 511, 511, 2047, 4095, 8191, 511, 511, 49663, 115199, 246271, 511, 1032703, 2097151, 4194303]
theorem laws_FnDepots.tab24 : rtab .any (opsOf Try.f14 24) = laws_FnDepots.T24 := by kernel_rfl
theorem laws_FnDepots.bits24 : waitsOk laws_FnDepots.T24.2 laws_FnDepots.B24 = true := by kernel_rfl
set_option maxHeartbeats 8000000 in
set_option maxRecDepth 100000 in
theorem laws_FnDepots.calls (k : Nat) (A0 : Option Addr) (c0 : Nat) (l0 : List Int) (r : Bool) (w : World) (hr0 : Kd.C (Kd.int .u8) w A0 l0.length l0) (hc0 : l0.length ≤ c0) (h : laws_FnDepots.f k l0 = some r) :
  Calls Try.prog 14 #[.slice A0 l0.length c0] w fun e w' => e = .returned (.bool r) ∧ Below w.heap.size w w' := by
 have HR0 := jA hr0
 have HC0 := jA hc0
 clear hr0 hc0
 have HB := jA (Below.refl w.heap.size w)
 have H : ((laws_big.f l0).bind fun t372 => (if t372 = true then (some true) else ((spec_DrawLimitOf.f k l0).bind fun bt373 => ((impl_LimitOf.f k bt373.1 bt373.2.1 bt373.2.2).bind fun bt378 => ((spec_LimitOf.f k bt373.1 bt373.2.1 bt373.2.2).bind fun bt380 => ((impl_TooClose.f k bt373.1 bt373.2.1).bind fun bt382 => ((spec_TooClose.f k bt373.1 bt373.2.1).bind fun bt386 => ((spec_DrawMoveGrams.f k l0).bind fun bt390 => ((impl_MoveGrams.f k bt390.1 bt390.2.1 bt390.2.2.1 bt390.2.2.2).bind fun bt396 => ((spec_MoveGrams.f k bt390.1 bt390.2.1 bt390.2.2.1 bt390.2.2.2).bind fun bt400 => ((impl_GreatestFactor.f k bt373.1).bind fun bt404 => ((spec_GreatestFactor.f k bt373.1).bind fun bt406 => (if bt378.2 = bt380.2 then (if bt378.1 = bt380.1 then (if bt382.2 = bt386.2 then ((laws_likeRows.f k bt382.1 bt386.1).bind fun t408 => (if t408 = true then (if bt396.2 = bt400.2 then ((laws_likeDepots.f k bt396.1 bt400.1).bind fun t409 => (if t409 = true then (if bt404.2 = bt406.2 then (if bt404.1 = bt406.1 then ((impl_AreDepots.f k bt373.1).bind fun t410 => (laws_FnDepots.j0 k bt373.1 bt373.2.1 bt373.2.2 bt378.1 bt378.2 bt382.1 bt382.2 bt390.1 bt390.2.2.1 bt390.2.2.2 bt396.1 bt396.2 bt404.1 (t410 != (bt406.2 == 0)))) else (laws_FnDepots.j0 k bt373.1 bt373.2.1 bt373.2.2 bt378.1 bt378.2 bt382.1 bt382.2 bt390.1 bt390.2.2.1 bt390.2.2.2 bt396.1 bt396.2 bt404.1 true)) else (laws_FnDepots.j0 k bt373.1 bt373.2.1 bt373.2.2 bt378.1 bt378.2 bt382.1 bt382.2 bt390.1 bt390.2.2.1 bt390.2.2.2 bt396.1 bt396.2 bt404.1 true)) else (laws_FnDepots.j0 k bt373.1 bt373.2.1 bt373.2.2 bt378.1 bt378.2 bt382.1 bt382.2 bt390.1 bt390.2.2.1 bt390.2.2.2 bt396.1 bt396.2 bt404.1 true))) else (laws_FnDepots.j0 k bt373.1 bt373.2.1 bt373.2.2 bt378.1 bt378.2 bt382.1 bt382.2 bt390.1 bt390.2.2.1 bt390.2.2.2 bt396.1 bt396.2 bt404.1 true)) else (laws_FnDepots.j0 k bt373.1 bt373.2.1 bt373.2.2 bt378.1 bt378.2 bt382.1 bt382.2 bt390.1 bt390.2.2.1 bt390.2.2.2 bt396.1 bt396.2 bt404.1 true))) else (laws_FnDepots.j0 k bt373.1 bt373.2.1 bt373.2.2 bt378.1 bt378.2 bt382.1 bt382.2 bt390.1 bt390.2.2.1 bt390.2.2.2 bt396.1 bt396.2 bt404.1 true)) else (laws_FnDepots.j0 k bt373.1 bt373.2.1 bt373.2.2 bt378.1 bt378.2 bt382.1 bt382.2 bt390.1 bt390.2.2.1 bt390.2.2.2 bt396.1 bt396.2 bt404.1 true)) else (laws_FnDepots.j0 k bt373.1 bt373.2.1 bt373.2.2 bt378.1 bt378.2 bt382.1 bt382.2 bt390.1 bt390.2.2.1 bt390.2.2.2 bt396.1 bt396.2 bt404.1 true)))))))))))))) = some r := h
 clear h
 replace H := jD.mp H
 obtain ⟨t372, A20, H⟩ := H
 replace H : (if t372 = true then (some true) else ((spec_DrawLimitOf.f k l0).bind fun bt373 => ((impl_LimitOf.f k bt373.1 bt373.2.1 bt373.2.2).bind fun bt378 => ((spec_LimitOf.f k bt373.1 bt373.2.1 bt373.2.2).bind fun bt380 => ((impl_TooClose.f k bt373.1 bt373.2.1).bind fun bt382 => ((spec_TooClose.f k bt373.1 bt373.2.1).bind fun bt386 => ((spec_DrawMoveGrams.f k l0).bind fun bt390 => ((impl_MoveGrams.f k bt390.1 bt390.2.1 bt390.2.2.1 bt390.2.2.2).bind fun bt396 => ((spec_MoveGrams.f k bt390.1 bt390.2.1 bt390.2.2.1 bt390.2.2.2).bind fun bt400 => ((impl_GreatestFactor.f k bt373.1).bind fun bt404 => ((spec_GreatestFactor.f k bt373.1).bind fun bt406 => (if bt378.2 = bt380.2 then (if bt378.1 = bt380.1 then (if bt382.2 = bt386.2 then ((laws_likeRows.f k bt382.1 bt386.1).bind fun t408 => (if t408 = true then (if bt396.2 = bt400.2 then ((laws_likeDepots.f k bt396.1 bt400.1).bind fun t409 => (if t409 = true then (if bt404.2 = bt406.2 then (if bt404.1 = bt406.1 then ((impl_AreDepots.f k bt373.1).bind fun t410 => (laws_FnDepots.j0 k bt373.1 bt373.2.1 bt373.2.2 bt378.1 bt378.2 bt382.1 bt382.2 bt390.1 bt390.2.2.1 bt390.2.2.2 bt396.1 bt396.2 bt404.1 (t410 != (bt406.2 == 0)))) else (laws_FnDepots.j0 k bt373.1 bt373.2.1 bt373.2.2 bt378.1 bt378.2 bt382.1 bt382.2 bt390.1 bt390.2.2.1 bt390.2.2.2 bt396.1 bt396.2 bt404.1 true)) else (laws_FnDepots.j0 k bt373.1 bt373.2.1 bt373.2.2 bt378.1 bt378.2 bt382.1 bt382.2 bt390.1 bt390.2.2.1 bt390.2.2.2 bt396.1 bt396.2 bt404.1 true)) else (laws_FnDepots.j0 k bt373.1 bt373.2.1 bt373.2.2 bt378.1 bt378.2 bt382.1 bt382.2 bt390.1 bt390.2.2.1 bt390.2.2.2 bt396.1 bt396.2 bt404.1 true))) else (laws_FnDepots.j0 k bt373.1 bt373.2.1 bt373.2.2 bt378.1 bt378.2 bt382.1 bt382.2 bt390.1 bt390.2.2.1 bt390.2.2.2 bt396.1 bt396.2 bt404.1 true)) else (laws_FnDepots.j0 k bt373.1 bt373.2.1 bt373.2.2 bt378.1 bt378.2 bt382.1 bt382.2 bt390.1 bt390.2.2.1 bt390.2.2.2 bt396.1 bt396.2 bt404.1 true))) else (laws_FnDepots.j0 k bt373.1 bt373.2.1 bt373.2.2 bt378.1 bt378.2 bt382.1 bt382.2 bt390.1 bt390.2.2.1 bt390.2.2.2 bt396.1 bt396.2 bt404.1 true)) else (laws_FnDepots.j0 k bt373.1 bt373.2.1 bt373.2.2 bt378.1 bt378.2 bt382.1 bt382.2 bt390.1 bt390.2.2.1 bt390.2.2.2 bt396.1 bt396.2 bt404.1 true)) else (laws_FnDepots.j0 k bt373.1 bt373.2.1 bt373.2.2 bt378.1 bt378.2 bt382.1 bt382.2 bt390.1 bt390.2.2.1 bt390.2.2.2 bt396.1 bt396.2 bt404.1 true))))))))))))) = some r := H
 have A2 := jA A20
 clear A20
 by_cases c3 : t372 = true
 ·subst c3
  have H1 : (some true) = some r := by rw [if_pos rfl] at H; exact H
  clear H
  have H := H1
  clear H1
  obtain rfl := jM H
  go_enter Try.func14, Try.ntmps14
  go_wp2_with (first | ((with_reducible refine jH (f := 24) rfl ?_); refine goesL_ (some 36) rfl rfl Try.func24 zr rfl #[.slice A0 l0.length c0] rfl zm ?_; (with_reducible refine (laws_big.calls _ _ l0 true _ ?side1 ?side2 A2.out).mono ?_); (case side1 => repeat (first | exact HR0.out | (with_reducible refine jO ?_ _) | (with_reducible refine jN ?_ _) | (with_reducible refine jS ?_))); (case side2 => exact HC0.out); rintro e w' ⟨rfl, ⟨nd, rfl⟩⟩; refine ⟨_, rfl, ?_⟩))
  go_ret
  exact ⟨by first | rfl | (simp [errW_none, errW_some] <;> rfl) | (simp [*, errW_none, errW_some] <;> rfl), zb0 HB⟩
 ·as_aux_lemma =>
  replace c3 := Bool.eq_false_iff.mpr c3
  subst c3
  have H1 : ((spec_DrawLimitOf.f k l0).bind fun bt373 => ((impl_LimitOf.f k bt373.1 bt373.2.1 bt373.2.2).bind fun bt378 => ((spec_LimitOf.f k bt373.1 bt373.2.1 bt373.2.2).bind fun bt380 => ((impl_TooClose.f k bt373.1 bt373.2.1).bind fun bt382 => ((spec_TooClose.f k bt373.1 bt373.2.1).bind fun bt386 => ((spec_DrawMoveGrams.f k l0).bind fun bt390 => ((impl_MoveGrams.f k bt390.1 bt390.2.1 bt390.2.2.1 bt390.2.2.2).bind fun bt396 => ((spec_MoveGrams.f k bt390.1 bt390.2.1 bt390.2.2.1 bt390.2.2.2).bind fun bt400 => ((impl_GreatestFactor.f k bt373.1).bind fun bt404 => ((spec_GreatestFactor.f k bt373.1).bind fun bt406 => (if bt378.2 = bt380.2 then (if bt378.1 = bt380.1 then (if bt382.2 = bt386.2 then ((laws_likeRows.f k bt382.1 bt386.1).bind fun t408 => (if t408 = true then (if bt396.2 = bt400.2 then ((laws_likeDepots.f k bt396.1 bt400.1).bind fun t409 => (if t409 = true then (if bt404.2 = bt406.2 then (if bt404.1 = bt406.1 then ((impl_AreDepots.f k bt373.1).bind fun t410 => (laws_FnDepots.j0 k bt373.1 bt373.2.1 bt373.2.2 bt378.1 bt378.2 bt382.1 bt382.2 bt390.1 bt390.2.2.1 bt390.2.2.2 bt396.1 bt396.2 bt404.1 (t410 != (bt406.2 == 0)))) else (laws_FnDepots.j0 k bt373.1 bt373.2.1 bt373.2.2 bt378.1 bt378.2 bt382.1 bt382.2 bt390.1 bt390.2.2.1 bt390.2.2.2 bt396.1 bt396.2 bt404.1 true)) else (laws_FnDepots.j0 k bt373.1 bt373.2.1 bt373.2.2 bt378.1 bt378.2 bt382.1 bt382.2 bt390.1 bt390.2.2.1 bt390.2.2.2 bt396.1 bt396.2 bt404.1 true)) else (laws_FnDepots.j0 k bt373.1 bt373.2.1 bt373.2.2 bt378.1 bt378.2 bt382.1 bt382.2 bt390.1 bt390.2.2.1 bt390.2.2.2 bt396.1 bt396.2 bt404.1 true))) else (laws_FnDepots.j0 k bt373.1 bt373.2.1 bt373.2.2 bt378.1 bt378.2 bt382.1 bt382.2 bt390.1 bt390.2.2.1 bt390.2.2.2 bt396.1 bt396.2 bt404.1 true)) else (laws_FnDepots.j0 k bt373.1 bt373.2.1 bt373.2.2 bt378.1 bt378.2 bt382.1 bt382.2 bt390.1 bt390.2.2.1 bt390.2.2.2 bt396.1 bt396.2 bt404.1 true))) else (laws_FnDepots.j0 k bt373.1 bt373.2.1 bt373.2.2 bt378.1 bt378.2 bt382.1 bt382.2 bt390.1 bt390.2.2.1 bt390.2.2.2 bt396.1 bt396.2 bt404.1 true)) else (laws_FnDepots.j0 k bt373.1 bt373.2.1 bt373.2.2 bt378.1 bt378.2 bt382.1 bt382.2 bt390.1 bt390.2.2.1 bt390.2.2.2 bt396.1 bt396.2 bt404.1 true)) else (laws_FnDepots.j0 k bt373.1 bt373.2.1 bt373.2.2 bt378.1 bt378.2 bt382.1 bt382.2 bt390.1 bt390.2.2.1 bt390.2.2.2 bt396.1 bt396.2 bt404.1 true)))))))))))) = some r := by rw [if_neg (show ¬ (false = true) by decide)] at H; exact H
  clear H
  have H := H1
  clear H1
  replace H := jD.mp H
  obtain ⟨⟨t373, t374, t375⟩, A40, H⟩ := H
  replace H : ((impl_LimitOf.f k t373 t374 t375).bind fun bt378 => ((spec_LimitOf.f k t373 t374 t375).bind fun bt380 => ((impl_TooClose.f k t373 t374).bind fun bt382 => ((spec_TooClose.f k t373 t374).bind fun bt386 => ((spec_DrawMoveGrams.f k l0).bind fun bt390 => ((impl_MoveGrams.f k bt390.1 bt390.2.1 bt390.2.2.1 bt390.2.2.2).bind fun bt396 => ((spec_MoveGrams.f k bt390.1 bt390.2.1 bt390.2.2.1 bt390.2.2.2).bind fun bt400 => ((impl_GreatestFactor.f k t373).bind fun bt404 => ((spec_GreatestFactor.f k t373).bind fun bt406 => (if bt378.2 = bt380.2 then (if bt378.1 = bt380.1 then (if bt382.2 = bt386.2 then ((laws_likeRows.f k bt382.1 bt386.1).bind fun t408 => (if t408 = true then (if bt396.2 = bt400.2 then ((laws_likeDepots.f k bt396.1 bt400.1).bind fun t409 => (if t409 = true then (if bt404.2 = bt406.2 then (if bt404.1 = bt406.1 then ((impl_AreDepots.f k t373).bind fun t410 => (laws_FnDepots.j0 k t373 t374 t375 bt378.1 bt378.2 bt382.1 bt382.2 bt390.1 bt390.2.2.1 bt390.2.2.2 bt396.1 bt396.2 bt404.1 (t410 != (bt406.2 == 0)))) else (laws_FnDepots.j0 k t373 t374 t375 bt378.1 bt378.2 bt382.1 bt382.2 bt390.1 bt390.2.2.1 bt390.2.2.2 bt396.1 bt396.2 bt404.1 true)) else (laws_FnDepots.j0 k t373 t374 t375 bt378.1 bt378.2 bt382.1 bt382.2 bt390.1 bt390.2.2.1 bt390.2.2.2 bt396.1 bt396.2 bt404.1 true)) else (laws_FnDepots.j0 k t373 t374 t375 bt378.1 bt378.2 bt382.1 bt382.2 bt390.1 bt390.2.2.1 bt390.2.2.2 bt396.1 bt396.2 bt404.1 true))) else (laws_FnDepots.j0 k t373 t374 t375 bt378.1 bt378.2 bt382.1 bt382.2 bt390.1 bt390.2.2.1 bt390.2.2.2 bt396.1 bt396.2 bt404.1 true)) else (laws_FnDepots.j0 k t373 t374 t375 bt378.1 bt378.2 bt382.1 bt382.2 bt390.1 bt390.2.2.1 bt390.2.2.2 bt396.1 bt396.2 bt404.1 true))) else (laws_FnDepots.j0 k t373 t374 t375 bt378.1 bt378.2 bt382.1 bt382.2 bt390.1 bt390.2.2.1 bt390.2.2.2 bt396.1 bt396.2 bt404.1 true)) else (laws_FnDepots.j0 k t373 t374 t375 bt378.1 bt378.2 bt382.1 bt382.2 bt390.1 bt390.2.2.1 bt390.2.2.2 bt396.1 bt396.2 bt404.1 true)) else (laws_FnDepots.j0 k t373 t374 t375 bt378.1 bt378.2 bt382.1 bt382.2 bt390.1 bt390.2.2.1 bt390.2.2.2 bt396.1 bt396.2 bt404.1 true))))))))))) = some r := H
  have A4 := jA A40
  clear A40
  replace H := jD.mp H
  obtain ⟨⟨t378, t379⟩, A50, H⟩ := H
  replace H : ((spec_LimitOf.f k t373 t374 t375).bind fun bt380 => ((impl_TooClose.f k t373 t374).bind fun bt382 => ((spec_TooClose.f k t373 t374).bind fun bt386 => ((spec_DrawMoveGrams.f k l0).bind fun bt390 => ((impl_MoveGrams.f k bt390.1 bt390.2.1 bt390.2.2.1 bt390.2.2.2).bind fun bt396 => ((spec_MoveGrams.f k bt390.1 bt390.2.1 bt390.2.2.1 bt390.2.2.2).bind fun bt400 => ((impl_GreatestFactor.f k t373).bind fun bt404 => ((spec_GreatestFactor.f k t373).bind fun bt406 => (if t379 = bt380.2 then (if t378 = bt380.1 then (if bt382.2 = bt386.2 then ((laws_likeRows.f k bt382.1 bt386.1).bind fun t408 => (if t408 = true then (if bt396.2 = bt400.2 then ((laws_likeDepots.f k bt396.1 bt400.1).bind fun t409 => (if t409 = true then (if bt404.2 = bt406.2 then (if bt404.1 = bt406.1 then ((impl_AreDepots.f k t373).bind fun t410 => (laws_FnDepots.j0 k t373 t374 t375 t378 t379 bt382.1 bt382.2 bt390.1 bt390.2.2.1 bt390.2.2.2 bt396.1 bt396.2 bt404.1 (t410 != (bt406.2 == 0)))) else (laws_FnDepots.j0 k t373 t374 t375 t378 t379 bt382.1 bt382.2 bt390.1 bt390.2.2.1 bt390.2.2.2 bt396.1 bt396.2 bt404.1 true)) else (laws_FnDepots.j0 k t373 t374 t375 t378 t379 bt382.1 bt382.2 bt390.1 bt390.2.2.1 bt390.2.2.2 bt396.1 bt396.2 bt404.1 true)) else (laws_FnDepots.j0 k t373 t374 t375 t378 t379 bt382.1 bt382.2 bt390.1 bt390.2.2.1 bt390.2.2.2 bt396.1 bt396.2 bt404.1 true))) else (laws_FnDepots.j0 k t373 t374 t375 t378 t379 bt382.1 bt382.2 bt390.1 bt390.2.2.1 bt390.2.2.2 bt396.1 bt396.2 bt404.1 true)) else (laws_FnDepots.j0 k t373 t374 t375 t378 t379 bt382.1 bt382.2 bt390.1 bt390.2.2.1 bt390.2.2.2 bt396.1 bt396.2 bt404.1 true))) else (laws_FnDepots.j0 k t373 t374 t375 t378 t379 bt382.1 bt382.2 bt390.1 bt390.2.2.1 bt390.2.2.2 bt396.1 bt396.2 bt404.1 true)) else (laws_FnDepots.j0 k t373 t374 t375 t378 t379 bt382.1 bt382.2 bt390.1 bt390.2.2.1 bt390.2.2.2 bt396.1 bt396.2 bt404.1 true)) else (laws_FnDepots.j0 k t373 t374 t375 t378 t379 bt382.1 bt382.2 bt390.1 bt390.2.2.1 bt390.2.2.2 bt396.1 bt396.2 bt404.1 true)))))))))) = some r := H
  have A5 := jA A50
  clear A50
  replace H := jD.mp H
  obtain ⟨⟨t380, t381⟩, A60, H⟩ := H
  replace H : ((impl_TooClose.f k t373 t374).bind fun bt382 => ((spec_TooClose.f k t373 t374).bind fun bt386 => ((spec_DrawMoveGrams.f k l0).bind fun bt390 => ((impl_MoveGrams.f k bt390.1 bt390.2.1 bt390.2.2.1 bt390.2.2.2).bind fun bt396 => ((spec_MoveGrams.f k bt390.1 bt390.2.1 bt390.2.2.1 bt390.2.2.2).bind fun bt400 => ((impl_GreatestFactor.f k t373).bind fun bt404 => ((spec_GreatestFactor.f k t373).bind fun bt406 => (if t379 = t381 then (if t378 = t380 then (if bt382.2 = bt386.2 then ((laws_likeRows.f k bt382.1 bt386.1).bind fun t408 => (if t408 = true then (if bt396.2 = bt400.2 then ((laws_likeDepots.f k bt396.1 bt400.1).bind fun t409 => (if t409 = true then (if bt404.2 = bt406.2 then (if bt404.1 = bt406.1 then ((impl_AreDepots.f k t373).bind fun t410 => (laws_FnDepots.j0 k t373 t374 t375 t378 t379 bt382.1 bt382.2 bt390.1 bt390.2.2.1 bt390.2.2.2 bt396.1 bt396.2 bt404.1 (t410 != (bt406.2 == 0)))) else (laws_FnDepots.j0 k t373 t374 t375 t378 t379 bt382.1 bt382.2 bt390.1 bt390.2.2.1 bt390.2.2.2 bt396.1 bt396.2 bt404.1 true)) else (laws_FnDepots.j0 k t373 t374 t375 t378 t379 bt382.1 bt382.2 bt390.1 bt390.2.2.1 bt390.2.2.2 bt396.1 bt396.2 bt404.1 true)) else (laws_FnDepots.j0 k t373 t374 t375 t378 t379 bt382.1 bt382.2 bt390.1 bt390.2.2.1 bt390.2.2.2 bt396.1 bt396.2 bt404.1 true))) else (laws_FnDepots.j0 k t373 t374 t375 t378 t379 bt382.1 bt382.2 bt390.1 bt390.2.2.1 bt390.2.2.2 bt396.1 bt396.2 bt404.1 true)) else (laws_FnDepots.j0 k t373 t374 t375 t378 t379 bt382.1 bt382.2 bt390.1 bt390.2.2.1 bt390.2.2.2 bt396.1 bt396.2 bt404.1 true))) else (laws_FnDepots.j0 k t373 t374 t375 t378 t379 bt382.1 bt382.2 bt390.1 bt390.2.2.1 bt390.2.2.2 bt396.1 bt396.2 bt404.1 true)) else (laws_FnDepots.j0 k t373 t374 t375 t378 t379 bt382.1 bt382.2 bt390.1 bt390.2.2.1 bt390.2.2.2 bt396.1 bt396.2 bt404.1 true)) else (laws_FnDepots.j0 k t373 t374 t375 t378 t379 bt382.1 bt382.2 bt390.1 bt390.2.2.1 bt390.2.2.2 bt396.1 bt396.2 bt404.1 true))))))))) = some r := H
  have A6 := jA A60
  clear A60
  replace H := jD.mp H
  obtain ⟨⟨t382, t383⟩, A70, H⟩ := H
  replace H : ((spec_TooClose.f k t373 t374).bind fun bt386 => ((spec_DrawMoveGrams.f k l0).bind fun bt390 => ((impl_MoveGrams.f k bt390.1 bt390.2.1 bt390.2.2.1 bt390.2.2.2).bind fun bt396 => ((spec_MoveGrams.f k bt390.1 bt390.2.1 bt390.2.2.1 bt390.2.2.2).bind fun bt400 => ((impl_GreatestFactor.f k t373).bind fun bt404 => ((spec_GreatestFactor.f k t373).bind fun bt406 => (if t379 = t381 then (if t378 = t380 then (if t383 = bt386.2 then ((laws_likeRows.f k t382 bt386.1).bind fun t408 => (if t408 = true then (if bt396.2 = bt400.2 then ((laws_likeDepots.f k bt396.1 bt400.1).bind fun t409 => (if t409 = true then (if bt404.2 = bt406.2 then (if bt404.1 = bt406.1 then ((impl_AreDepots.f k t373).bind fun t410 => (laws_FnDepots.j0 k t373 t374 t375 t378 t379 t382 t383 bt390.1 bt390.2.2.1 bt390.2.2.2 bt396.1 bt396.2 bt404.1 (t410 != (bt406.2 == 0)))) else (laws_FnDepots.j0 k t373 t374 t375 t378 t379 t382 t383 bt390.1 bt390.2.2.1 bt390.2.2.2 bt396.1 bt396.2 bt404.1 true)) else (laws_FnDepots.j0 k t373 t374 t375 t378 t379 t382 t383 bt390.1 bt390.2.2.1 bt390.2.2.2 bt396.1 bt396.2 bt404.1 true)) else (laws_FnDepots.j0 k t373 t374 t375 t378 t379 t382 t383 bt390.1 bt390.2.2.1 bt390.2.2.2 bt396.1 bt396.2 bt404.1 true))) else (laws_FnDepots.j0 k t373 t374 t375 t378 t379 t382 t383 bt390.1 bt390.2.2.1 bt390.2.2.2 bt396.1 bt396.2 bt404.1 true)) else (laws_FnDepots.j0 k t373 t374 t375 t378 t379 t382 t383 bt390.1 bt390.2.2.1 bt390.2.2.2 bt396.1 bt396.2 bt404.1 true))) else (laws_FnDepots.j0 k t373 t374 t375 t378 t379 t382 t383 bt390.1 bt390.2.2.1 bt390.2.2.2 bt396.1 bt396.2 bt404.1 true)) else (laws_FnDepots.j0 k t373 t374 t375 t378 t379 t382 t383 bt390.1 bt390.2.2.1 bt390.2.2.2 bt396.1 bt396.2 bt404.1 true)) else (laws_FnDepots.j0 k t373 t374 t375 t378 t379 t382 t383 bt390.1 bt390.2.2.1 bt390.2.2.2 bt396.1 bt396.2 bt404.1 true)))))))) = some r := H
  have A7 := jA A70
  clear A70
  replace H := jD.mp H
  obtain ⟨⟨t386, t387⟩, A80, H⟩ := H
  replace H : ((spec_DrawMoveGrams.f k l0).bind fun bt390 => ((impl_MoveGrams.f k bt390.1 bt390.2.1 bt390.2.2.1 bt390.2.2.2).bind fun bt396 => ((spec_MoveGrams.f k bt390.1 bt390.2.1 bt390.2.2.1 bt390.2.2.2).bind fun bt400 => ((impl_GreatestFactor.f k t373).bind fun bt404 => ((spec_GreatestFactor.f k t373).bind fun bt406 => (if t379 = t381 then (if t378 = t380 then (if t383 = t387 then ((laws_likeRows.f k t382 t386).bind fun t408 => (if t408 = true then (if bt396.2 = bt400.2 then ((laws_likeDepots.f k bt396.1 bt400.1).bind fun t409 => (if t409 = true then (if bt404.2 = bt406.2 then (if bt404.1 = bt406.1 then ((impl_AreDepots.f k t373).bind fun t410 => (laws_FnDepots.j0 k t373 t374 t375 t378 t379 t382 t383 bt390.1 bt390.2.2.1 bt390.2.2.2 bt396.1 bt396.2 bt404.1 (t410 != (bt406.2 == 0)))) else (laws_FnDepots.j0 k t373 t374 t375 t378 t379 t382 t383 bt390.1 bt390.2.2.1 bt390.2.2.2 bt396.1 bt396.2 bt404.1 true)) else (laws_FnDepots.j0 k t373 t374 t375 t378 t379 t382 t383 bt390.1 bt390.2.2.1 bt390.2.2.2 bt396.1 bt396.2 bt404.1 true)) else (laws_FnDepots.j0 k t373 t374 t375 t378 t379 t382 t383 bt390.1 bt390.2.2.1 bt390.2.2.2 bt396.1 bt396.2 bt404.1 true))) else (laws_FnDepots.j0 k t373 t374 t375 t378 t379 t382 t383 bt390.1 bt390.2.2.1 bt390.2.2.2 bt396.1 bt396.2 bt404.1 true)) else (laws_FnDepots.j0 k t373 t374 t375 t378 t379 t382 t383 bt390.1 bt390.2.2.1 bt390.2.2.2 bt396.1 bt396.2 bt404.1 true))) else (laws_FnDepots.j0 k t373 t374 t375 t378 t379 t382 t383 bt390.1 bt390.2.2.1 bt390.2.2.2 bt396.1 bt396.2 bt404.1 true)) else (laws_FnDepots.j0 k t373 t374 t375 t378 t379 t382 t383 bt390.1 bt390.2.2.1 bt390.2.2.2 bt396.1 bt396.2 bt404.1 true)) else (laws_FnDepots.j0 k t373 t374 t375 t378 t379 t382 t383 bt390.1 bt390.2.2.1 bt390.2.2.2 bt396.1 bt396.2 bt404.1 true))))))) = some r := H
  have A8 := jA A80
  clear A80
  replace H := jD.mp H
  obtain ⟨⟨t390, t391, t392, t393⟩, A90, H⟩ := H
  replace H : ((impl_MoveGrams.f k t390 t391 t392 t393).bind fun bt396 => ((spec_MoveGrams.f k t390 t391 t392 t393).bind fun bt400 => ((impl_GreatestFactor.f k t373).bind fun bt404 => ((spec_GreatestFactor.f k t373).bind fun bt406 => (if t379 = t381 then (if t378 = t380 then (if t383 = t387 then ((laws_likeRows.f k t382 t386).bind fun t408 => (if t408 = true then (if bt396.2 = bt400.2 then ((laws_likeDepots.f k bt396.1 bt400.1).bind fun t409 => (if t409 = true then (if bt404.2 = bt406.2 then (if bt404.1 = bt406.1 then ((impl_AreDepots.f k t373).bind fun t410 => (laws_FnDepots.j0 k t373 t374 t375 t378 t379 t382 t383 t390 t392 t393 bt396.1 bt396.2 bt404.1 (t410 != (bt406.2 == 0)))) else (laws_FnDepots.j0 k t373 t374 t375 t378 t379 t382 t383 t390 t392 t393 bt396.1 bt396.2 bt404.1 true)) else (laws_FnDepots.j0 k t373 t374 t375 t378 t379 t382 t383 t390 t392 t393 bt396.1 bt396.2 bt404.1 true)) else (laws_FnDepots.j0 k t373 t374 t375 t378 t379 t382 t383 t390 t392 t393 bt396.1 bt396.2 bt404.1 true))) else (laws_FnDepots.j0 k t373 t374 t375 t378 t379 t382 t383 t390 t392 t393 bt396.1 bt396.2 bt404.1 true)) else (laws_FnDepots.j0 k t373 t374 t375 t378 t379 t382 t383 t390 t392 t393 bt396.1 bt396.2 bt404.1 true))) else (laws_FnDepots.j0 k t373 t374 t375 t378 t379 t382 t383 t390 t392 t393 bt396.1 bt396.2 bt404.1 true)) else (laws_FnDepots.j0 k t373 t374 t375 t378 t379 t382 t383 t390 t392 t393 bt396.1 bt396.2 bt404.1 true)) else (laws_FnDepots.j0 k t373 t374 t375 t378 t379 t382 t383 t390 t392 t393 bt396.1 bt396.2 bt404.1 true)))))) = some r := H
  have A9 := jA A90
  clear A90
  replace H := jD.mp H
  obtain ⟨⟨t396, t397⟩, A100, H⟩ := H
  replace H : ((spec_MoveGrams.f k t390 t391 t392 t393).bind fun bt400 => ((impl_GreatestFactor.f k t373).bind fun bt404 => ((spec_GreatestFactor.f k t373).bind fun bt406 => (if t379 = t381 then (if t378 = t380 then (if t383 = t387 then ((laws_likeRows.f k t382 t386).bind fun t408 => (if t408 = true then (if t397 = bt400.2 then ((laws_likeDepots.f k t396 bt400.1).bind fun t409 => (if t409 = true then (if bt404.2 = bt406.2 then (if bt404.1 = bt406.1 then ((impl_AreDepots.f k t373).bind fun t410 => (laws_FnDepots.j0 k t373 t374 t375 t378 t379 t382 t383 t390 t392 t393 t396 t397 bt404.1 (t410 != (bt406.2 == 0)))) else (laws_FnDepots.j0 k t373 t374 t375 t378 t379 t382 t383 t390 t392 t393 t396 t397 bt404.1 true)) else (laws_FnDepots.j0 k t373 t374 t375 t378 t379 t382 t383 t390 t392 t393 t396 t397 bt404.1 true)) else (laws_FnDepots.j0 k t373 t374 t375 t378 t379 t382 t383 t390 t392 t393 t396 t397 bt404.1 true))) else (laws_FnDepots.j0 k t373 t374 t375 t378 t379 t382 t383 t390 t392 t393 t396 t397 bt404.1 true)) else (laws_FnDepots.j0 k t373 t374 t375 t378 t379 t382 t383 t390 t392 t393 t396 t397 bt404.1 true))) else (laws_FnDepots.j0 k t373 t374 t375 t378 t379 t382 t383 t390 t392 t393 t396 t397 bt404.1 true)) else (laws_FnDepots.j0 k t373 t374 t375 t378 t379 t382 t383 t390 t392 t393 t396 t397 bt404.1 true)) else (laws_FnDepots.j0 k t373 t374 t375 t378 t379 t382 t383 t390 t392 t393 t396 t397 bt404.1 true))))) = some r := H
  have A10 := jA A100
  clear A100
  replace H := jD.mp H
  obtain ⟨⟨t400, t401⟩, A110, H⟩ := H
  replace H : ((impl_GreatestFactor.f k t373).bind fun bt404 => ((spec_GreatestFactor.f k t373).bind fun bt406 => (if t379 = t381 then (if t378 = t380 then (if t383 = t387 then ((laws_likeRows.f k t382 t386).bind fun t408 => (if t408 = true then (if t397 = t401 then ((laws_likeDepots.f k t396 t400).bind fun t409 => (if t409 = true then (if bt404.2 = bt406.2 then (if bt404.1 = bt406.1 then ((impl_AreDepots.f k t373).bind fun t410 => (laws_FnDepots.j0 k t373 t374 t375 t378 t379 t382 t383 t390 t392 t393 t396 t397 bt404.1 (t410 != (bt406.2 == 0)))) else (laws_FnDepots.j0 k t373 t374 t375 t378 t379 t382 t383 t390 t392 t393 t396 t397 bt404.1 true)) else (laws_FnDepots.j0 k t373 t374 t375 t378 t379 t382 t383 t390 t392 t393 t396 t397 bt404.1 true)) else (laws_FnDepots.j0 k t373 t374 t375 t378 t379 t382 t383 t390 t392 t393 t396 t397 bt404.1 true))) else (laws_FnDepots.j0 k t373 t374 t375 t378 t379 t382 t383 t390 t392 t393 t396 t397 bt404.1 true)) else (laws_FnDepots.j0 k t373 t374 t375 t378 t379 t382 t383 t390 t392 t393 t396 t397 bt404.1 true))) else (laws_FnDepots.j0 k t373 t374 t375 t378 t379 t382 t383 t390 t392 t393 t396 t397 bt404.1 true)) else (laws_FnDepots.j0 k t373 t374 t375 t378 t379 t382 t383 t390 t392 t393 t396 t397 bt404.1 true)) else (laws_FnDepots.j0 k t373 t374 t375 t378 t379 t382 t383 t390 t392 t393 t396 t397 bt404.1 true)))) = some r := H
  have A11 := jA A110
  clear A110
  replace H := jD.mp H
  obtain ⟨⟨t404, t405⟩, A120, H⟩ := H
  replace H : ((spec_GreatestFactor.f k t373).bind fun bt406 => (if t379 = t381 then (if t378 = t380 then (if t383 = t387 then ((laws_likeRows.f k t382 t386).bind fun t408 => (if t408 = true then (if t397 = t401 then ((laws_likeDepots.f k t396 t400).bind fun t409 => (if t409 = true then (if t405 = bt406.2 then (if t404 = bt406.1 then ((impl_AreDepots.f k t373).bind fun t410 => (laws_FnDepots.j0 k t373 t374 t375 t378 t379 t382 t383 t390 t392 t393 t396 t397 t404 (t410 != (bt406.2 == 0)))) else (laws_FnDepots.j0 k t373 t374 t375 t378 t379 t382 t383 t390 t392 t393 t396 t397 t404 true)) else (laws_FnDepots.j0 k t373 t374 t375 t378 t379 t382 t383 t390 t392 t393 t396 t397 t404 true)) else (laws_FnDepots.j0 k t373 t374 t375 t378 t379 t382 t383 t390 t392 t393 t396 t397 t404 true))) else (laws_FnDepots.j0 k t373 t374 t375 t378 t379 t382 t383 t390 t392 t393 t396 t397 t404 true)) else (laws_FnDepots.j0 k t373 t374 t375 t378 t379 t382 t383 t390 t392 t393 t396 t397 t404 true))) else (laws_FnDepots.j0 k t373 t374 t375 t378 t379 t382 t383 t390 t392 t393 t396 t397 t404 true)) else (laws_FnDepots.j0 k t373 t374 t375 t378 t379 t382 t383 t390 t392 t393 t396 t397 t404 true)) else (laws_FnDepots.j0 k t373 t374 t375 t378 t379 t382 t383 t390 t392 t393 t396 t397 t404 true))) = some r := H
  have A12 := jA A120
  clear A120
  replace H := jD.mp H
  obtain ⟨⟨t406, t407⟩, A130, H⟩ := H
  replace H : (if t379 = t381 then (if t378 = t380 then (if t383 = t387 then ((laws_likeRows.f k t382 t386).bind fun t408 => (if t408 = true then (if t397 = t401 then ((laws_likeDepots.f k t396 t400).bind fun t409 => (if t409 = true then (if t405 = t407 then (if t404 = t406 then ((impl_AreDepots.f k t373).bind fun t410 => (laws_FnDepots.j0 k t373 t374 t375 t378 t379 t382 t383 t390 t392 t393 t396 t397 t404 (t410 != (t407 == 0)))) else (laws_FnDepots.j0 k t373 t374 t375 t378 t379 t382 t383 t390 t392 t393 t396 t397 t404 true)) else (laws_FnDepots.j0 k t373 t374 t375 t378 t379 t382 t383 t390 t392 t393 t396 t397 t404 true)) else (laws_FnDepots.j0 k t373 t374 t375 t378 t379 t382 t383 t390 t392 t393 t396 t397 t404 true))) else (laws_FnDepots.j0 k t373 t374 t375 t378 t379 t382 t383 t390 t392 t393 t396 t397 t404 true)) else (laws_FnDepots.j0 k t373 t374 t375 t378 t379 t382 t383 t390 t392 t393 t396 t397 t404 true))) else (laws_FnDepots.j0 k t373 t374 t375 t378 t379 t382 t383 t390 t392 t393 t396 t397 t404 true)) else (laws_FnDepots.j0 k t373 t374 t375 t378 t379 t382 t383 t390 t392 t393 t396 t397 t404 true)) else (laws_FnDepots.j0 k t373 t374 t375 t378 t379 t382 t383 t390 t392 t393 t396 t397 t404 true)) = some r := H
  have A13 := jA A130
  clear A130
  have HC14 := jA H
  clear H
  go_enter Try.func14, Try.ntmps14
  go_upto_region 13 with (first | ((with_reducible refine jH (f := 24) rfl ?_); refine goesL_ (some 36) rfl rfl Try.func24 zr rfl #[.slice A0 l0.length c0] rfl zm ?_; (with_reducible refine (laws_big.calls _ _ l0 false _ ?side1 ?side2 A2.out).mono ?_); (case side1 => repeat (first | exact HR0.out | (with_reducible refine jO ?_ _) | (with_reducible refine jN ?_ _) | (with_reducible refine jS ?_))); (case side2 => exact HC0.out); rintro e w' ⟨rfl, ⟨nd, rfl⟩⟩; refine ⟨_, rfl, ?_⟩) | ((with_reducible refine jH (f := 49) rfl ?_); refine goesL_ (some 39) rfl rfl Try.func49 zr rfl #[.slice A0 l0.length c0] rfl zm ?_; (with_reducible refine (spec_DrawLimitOf.calls k _ _ l0 t373 t374 t375 _ ?side1 ?side2 A4.out).mono ?_); (case side1 => repeat (first | exact HR0.out | (with_reducible refine jO ?_ _) | (with_reducible refine jN ?_ _) | (with_reducible refine jS ?_))); (case side2 => exact HC0.out); rintro e w15 ⟨v376, rfl, ho0, hb⟩; refine ⟨_, rfl, ?_⟩; have n0_ := jA (Kd.R_lower ho0 (jW (zb0 HB))); have n1_ := jA (jT (zb0 HB) hb); clear HB; have HO377 := n0_; have HB := n1_; clear n0_ n1_; (try clear hb); (try clear hb2); (try clear hk); (try clear hi); (try clear ho0); obtain ⟨Ao16, co16, eo16⟩ := Kd.R_slice HO377.out; subst eo16) | ((with_reducible refine jH (f := 43) rfl ?_); refine goesL_ (some 47) rfl rfl Try.func43 zr rfl #[.slice Ao16 t373.length co16, .int .i64 t374, .int .i64 t375] rfl zm ?_; (with_reducible refine (impl_LimitOf.calls k _ _ t373 t374 t375 t378 t379 _ ?side1 ?side2 A5.out).mono ?_); (case side1 => repeat (first | exact (jF HO377.out).2.2 | (with_reducible refine jO ?_ _) | (with_reducible refine jN ?_ _) | (with_reducible refine jS ?_))); (case side2 => exact (jF HO377.out).2.1); rintro e w17 ⟨rfl, hb⟩; refine ⟨_, rfl, ?_⟩; have n0_ := jA (Kd.R_below (zo HO377) hb); have n1_ := jA (jT (zb0 HB) hb); clear HO377; clear HB; have HO377 := n0_; have HB := n1_; clear n0_ n1_; (try clear hb); (try clear hb2); (try clear hk); (try clear hi)) | ((with_reducible refine jH (f := 42) rfl ?_); refine goesL_ (some 54) rfl rfl Try.func42 zr rfl #[.slice Ao16 t373.length co16, .int .i64 t374, .int .i64 t375] rfl zm ?_; (with_reducible refine (spec_LimitOf.calls k _ _ t373 t374 t375 t380 t381 _ ?side1 ?side2 A6.out).mono ?_); (case side1 => repeat (first | exact (jF HO377.out).2.2 | (with_reducible refine jO ?_ _) | (with_reducible refine jN ?_ _) | (with_reducible refine jS ?_))); (case side2 => exact (jF HO377.out).2.1); rintro e w18 ⟨rfl, hb⟩; refine ⟨_, rfl, ?_⟩; have n0_ := jA (Kd.R_below (zo HO377) hb); have n1_ := jA (jT (zb0 HB) hb); clear HO377; clear HB; have HO377 := n0_; have HB := n1_; clear n0_ n1_; (try clear hb); (try clear hb2); (try clear hk); (try clear hi)) | ((with_reducible refine jH (f := 45) rfl ?_); refine goesL_ (some 60) rfl rfl Try.func45 zr rfl #[.slice Ao16 t373.length co16, .int .i64 t374] rfl zm ?_; (with_reducible refine (impl_TooClose.calls k _ _ t373 t374 t382 t383 _ ?side1 ?side2 A7.out).mono ?_); (case side1 => repeat (first | exact (jF HO377.out).2.2 | (with_reducible refine jO ?_ _) | (with_reducible refine jN ?_ _) | (with_reducible refine jS ?_))); (case side2 => exact (jF HO377.out).2.1); rintro e w19 ⟨v384, rfl, ho0, hb⟩; refine ⟨_, rfl, ?_⟩; have n0_ := jA (Kd.R_below (zo HO377) hb); have n1_ := jA (Kd.S_lower ho0 (jW (zb0 HB))); have n2_ := jA (jT (zb0 HB) hb); clear HO377; clear HB; have HO377 := n0_; have HO385 := n1_; have HB := n2_; clear n0_ n1_ n2_; (try clear hb); (try clear hb2); (try clear hk); (try clear hi); (try clear ho0)) | ((with_reducible refine jH (f := 44) rfl ?_); refine goesL_ (some 66) rfl rfl Try.func44 zr rfl #[.slice Ao16 t373.length co16, .int .i64 t374] rfl zm ?_; (with_reducible refine (spec_TooClose.calls k _ _ t373 t374 t386 t387 _ ?side1 ?side2 A8.out).mono ?_); (case side1 => repeat (first | exact (jF HO377.out).2.2 | (with_reducible refine jO ?_ _) | (with_reducible refine jN ?_ _) | (with_reducible refine jS ?_))); (case side2 => exact (jF HO377.out).2.1); rintro e w20 ⟨v388, rfl, ho0, hb⟩; refine ⟨_, rfl, ?_⟩; have n0_ := jA (Kd.R_below (zo HO377) hb); have n1_ := jA (Kd.S_elder' (by (with_reducible repeat (first | apply Kd.S_alloc | apply Kd.S_drewN | apply Kd.S_drew)); exact HO385.out) (Kd.S_base ho0) hb); have n2_ := jA (Kd.S_lower (Kd.S_new' ho0 (Kd.S_lt (by (with_reducible repeat (first | apply Kd.S_alloc | apply Kd.S_drewN | apply Kd.S_drew)); exact HO385.out))) (jW (zb0 HB))); have n3_ := jA (jT (zb0 HB) hb); clear HO377; clear HO385; clear HB; have HO377 := n0_; have HO385 := n1_; have HO389 := n2_; have HB := n3_; clear n0_ n1_ n2_ n3_; (try clear hb); (try clear hb2); (try clear hk); (try clear hi); (try clear ho0)) | ((with_reducible refine jH (f := 50) rfl ?_); refine goesL_ (some 71) rfl rfl Try.func50 zr rfl #[.slice A0 l0.length c0] rfl zm ?_; (with_reducible refine (spec_DrawMoveGrams.calls k _ _ l0 t390 t391 t392 t393 _ ?side1 ?side2 A9.out).mono ?_); (case side1 => exact zs HR0 HB); (case side2 => exact HC0.out); rintro e w21 ⟨v394, rfl, ho0, hb⟩; refine ⟨_, rfl, ?_⟩; have n0_ := jA (Kd.R_elder' (zo HO377) (Kd.R_base ho0) hb); have n1_ := jA (Kd.S_below (by (with_reducible repeat (first | apply Kd.S_alloc | apply Kd.S_drewN | apply Kd.S_drew)); exact HO385.out) hb); have n2_ := jA (Kd.S_below (by (with_reducible repeat (first | apply Kd.S_alloc | apply Kd.S_drewN | apply Kd.S_drew)); exact HO389.out) hb); have n3_ := jA (Kd.R_lower (Kd.R_new' ho0 (Kd.R_lt (zo HO377))) (jW (zb0 HB))); have n4_ := jA (jT (zb0 HB) hb); clear HO377; clear HO385; clear HO389; clear HB; have HO377 := n0_; have HO385 := n1_; have HO389 := n2_; have HO395 := n3_; have HB := n4_; clear n0_ n1_ n2_ n3_ n4_; (try clear hb); (try clear hb2); (try clear hk); (try clear hi); (try clear ho0); obtain ⟨Ao22, co22, eo22⟩ := Kd.R_slice HO395.out; subst eo22) | ((with_reducible refine jH (f := 34) rfl ?_); refine goesL_ (some 81) rfl rfl Try.func34 zr rfl #[.slice Ao22 t390.length co22, .int .i64 t391, .int .i64 t392, .int .i64 t393] rfl zm ?_; (with_reducible refine (impl_MoveGrams.calls k _ _ t390 t391 t392 t393 t396 t397 _ ?side1 ?side2 A10.out).mono ?_); (case side1 => repeat (first | exact (jF HO395.out).2.2 | (with_reducible refine jO ?_ _) | (with_reducible refine jN ?_ _) | (with_reducible refine jS ?_))); (case side2 => exact (jF HO395.out).2.1); rintro e w23 ⟨v398, rfl, ho0, hb⟩; refine ⟨_, rfl, ?_⟩; have n0_ := jA (Kd.R_elder' (zo HO377) (Kd.R_base ho0) hb); have n1_ := jA (Kd.S_below (by (with_reducible repeat (first | apply Kd.S_alloc | apply Kd.S_drewN | apply Kd.S_drew)); exact HO385.out) hb); have n2_ := jA (Kd.S_below (by (with_reducible repeat (first | apply Kd.S_alloc | apply Kd.S_drewN | apply Kd.S_drew)); exact HO389.out) hb); have n3_ := jA (Kd.R_elder' (zo HO395) (Kd.R_base ho0) hb); have n4_ := jA (Kd.R_lower (Kd.R_new' (Kd.R_new' ho0 (Kd.R_lt (zo HO377))) (Kd.R_lt (zo HO395))) (jW (zb0 HB))); have n5_ := jA (jT (zb0 HB) hb); clear HO377; clear HO385; clear HO389; clear HO395; clear HB; have HO377 := n0_; have HO385 := n1_; have HO389 := n2_; have HO395 := n3_; have HO399 := n4_; have HB := n5_; clear n0_ n1_ n2_ n3_ n4_ n5_; (try clear hb); (try clear hb2); (try clear hk); (try clear hi); (try clear ho0)) | ((with_reducible refine jH (f := 33) rfl ?_); refine goesL_ (some 89) rfl rfl Try.func33 zr rfl #[.slice Ao22 t390.length co22, .int .i64 t391, .int .i64 t392, .int .i64 t393] rfl zm ?_; (with_reducible refine (spec_MoveGrams.calls k _ _ t390 t391 t392 t393 t400 t401 _ ?side1 ?side2 A11.out).mono ?_); (case side1 => repeat (first | exact (jF HO395.out).2.2 | (with_reducible refine jO ?_ _) | (with_reducible refine jN ?_ _) | (with_reducible refine jS ?_))); (case side2 => exact (jF HO395.out).2.1); rintro e w24 ⟨v402, rfl, ho0, hb⟩; refine ⟨_, rfl, ?_⟩; have n0_ := jA (Kd.R_elder' (zo HO377) (Kd.R_base ho0) hb); have n1_ := jA (Kd.S_below (by (with_reducible repeat (first | apply Kd.S_alloc | apply Kd.S_drewN | apply Kd.S_drew)); exact HO385.out) hb); have n2_ := jA (Kd.S_below (by (with_reducible repeat (first | apply Kd.S_alloc | apply Kd.S_drewN | apply Kd.S_drew)); exact HO389.out) hb); have n3_ := jA (Kd.R_elder' (zo HO395) (Kd.R_base ho0) hb); have n4_ := jA (Kd.R_elder' (zo HO399) (Kd.R_base ho0) hb); have n5_ := jA (Kd.R_lower (Kd.R_new' (Kd.R_new' (Kd.R_new' ho0 (Kd.R_lt (zo HO377))) (Kd.R_lt (zo HO395))) (Kd.R_lt (zo HO399))) (jW (zb0 HB))); have n6_ := jA (jT (zb0 HB) hb); clear HO377; clear HO385; clear HO389; clear HO395; clear HO399; clear HB; have HO377 := n0_; have HO385 := n1_; have HO389 := n2_; have HO395 := n3_; have HO399 := n4_; have HO403 := n5_; have HB := n6_; clear n0_ n1_ n2_ n3_ n4_ n5_ n6_; (try clear hb); (try clear hb2); (try clear hk); (try clear hi); (try clear ho0)) | ((with_reducible refine jH (f := 41) rfl ?_); refine goesL_ (some 94) rfl rfl Try.func41 zr rfl #[.slice Ao16 t373.length co16] rfl zm ?_; (with_reducible refine (impl_GreatestFactor.calls k _ _ t373 t404 t405 _ ?side1 ?side2 A12.out).mono ?_); (case side1 => repeat (first | exact (jF HO377.out).2.2 | (with_reducible refine jO ?_ _) | (with_reducible refine jN ?_ _) | (with_reducible refine jS ?_))); (case side2 => exact (jF HO377.out).2.1); rintro e w25 ⟨rfl, hb⟩; refine ⟨_, rfl, ?_⟩; have n0_ := jA (Kd.R_below (zo HO377) hb); have n1_ := jA (Kd.S_below (by (with_reducible repeat (first | apply Kd.S_alloc | apply Kd.S_drewN | apply Kd.S_drew)); exact HO385.out) hb); have n2_ := jA (Kd.S_below (by (with_reducible repeat (first | apply Kd.S_alloc | apply Kd.S_drewN | apply Kd.S_drew)); exact HO389.out) hb); have n3_ := jA (Kd.R_below (zo HO395) hb); have n4_ := jA (Kd.R_below (zo HO399) hb); have n5_ := jA (Kd.R_below (zo HO403) hb); have n6_ := jA (jT (zb0 HB) hb); clear HO377; clear HO385; clear HO389; clear HO395; clear HO399; clear HO403; clear HB; have HO377 := n0_; have HO385 := n1_; have HO389 := n2_; have HO395 := n3_; have HO399 := n4_; have HO403 := n5_; have HB := n6_; clear n0_ n1_ n2_ n3_ n4_ n5_ n6_; (try clear hb); (try clear hb2); (try clear hk); (try clear hi)) | ((with_reducible refine jH (f := 40) rfl ?_); refine goesL_ (some 99) rfl rfl Try.func40 zr rfl #[.slice Ao16 t373.length co16] rfl zm ?_; (with_reducible refine (spec_GreatestFactor.calls k _ _ t373 t406 t407 _ ?side1 ?side2 A13.out).mono ?_); (case side1 => repeat (first | exact (jF HO377.out).2.2 | (with_reducible refine jO ?_ _) | (with_reducible refine jN ?_ _) | (with_reducible refine jS ?_))); (case side2 => exact (jF HO377.out).2.1); rintro e w26 ⟨rfl, hb⟩; refine ⟨_, rfl, ?_⟩; have n0_ := jA (Kd.R_below (zo HO377) hb); have n1_ := jA (Kd.S_below (by (with_reducible repeat (first | apply Kd.S_alloc | apply Kd.S_drewN | apply Kd.S_drew)); exact HO385.out) hb); have n2_ := jA (Kd.S_below (by (with_reducible repeat (first | apply Kd.S_alloc | apply Kd.S_drewN | apply Kd.S_drew)); exact HO389.out) hb); have n3_ := jA (Kd.R_below (zo HO395) hb); have n4_ := jA (Kd.R_below (zo HO399) hb); have n5_ := jA (Kd.R_below (zo HO403) hb); have n6_ := jA (jT (zb0 HB) hb); clear HO377; clear HO385; clear HO389; clear HO395; clear HO399; clear HO403; clear HB; have HO377 := n0_; have HO385 := n1_; have HO389 := n2_; have HO395 := n3_; have HO399 := n4_; have HO403 := n5_; have HB := n6_; clear n0_ n1_ n2_ n3_ n4_ n5_ n6_; (try clear hb); (try clear hb2); (try clear hk); (try clear hi)))
  (try simp only [Act.put, jE, jI, jJ])
  go_cut [148] (fun v148 wc => ∃ (kq : Nat) (x148_13 : Bool), v148 = .bool x148_13 ∧ Aside0 (laws_FnDepots.j0 kq t373 t374 t375 t378 t379 t382 t383 t390 t392 t393 t396 t397 t404 x148_13 = some r) ∧ Aside0 (kq ≤ k) ∧ Aside0 (Kd.R k51 51 wc w.heap.size (fun k_ => some k_ ≠ ((.slice Ao22 t390.length co22) : Value).ownBlock ∧ some k_ ≠ (v398 : Value).ownBlock) (.slice Ao16 t373.length co16) t373) ∧ Aside0 (Kd.S (Kd.slice 2 (Kd.int .i64)) 59 wc w.heap.size (fun _ => True) v384 t382) ∧ Aside0 (Kd.R k51 51 wc w.heap.size (fun k_ => some k_ ≠ ((.slice Ao16 t373.length co16) : Value).ownBlock ∧ some k_ ≠ (v398 : Value).ownBlock) (.slice Ao22 t390.length co22) t390) ∧ Aside0 (Kd.R k51 51 wc w.heap.size (fun k_ => some k_ ≠ ((.slice Ao16 t373.length co16) : Value).ownBlock ∧ some k_ ≠ ((.slice Ao22 t390.length co22) : Value).ownBlock) v398 t396) ∧ Aside0 (Below w.heap.size w wc))
  case first =>
   have H := HC14.out
   clear HC14
   by_cases c27 : t379 = t381
   ·as_aux_lemma =>
    rw [if_pos c27] at H
    have c27b0 : (t379 == t381) = true := beq_iff_eq.mpr c27
    have c27b1 : (t379 != t381) = false := bne_eq_false_iff_eq.mpr c27
    clear c27
    (first | rw [c27b0] | (simp only [i64_w, i32_w]; rw [c27b0]) | skip)
    by_cases c28 : t378 = t380
    ·as_aux_lemma =>
     rw [if_pos c28] at H
     have c28b0 : (t378 == t380) = true := beq_iff_eq.mpr c28
     have c28b1 : (t378 != t380) = false := bne_eq_false_iff_eq.mpr c28
     clear c28
     by_cases c29 : t383 = t387
     ·as_aux_lemma =>
      rw [if_pos c29] at H
      have c29b0 : (t383 == t387) = true := beq_iff_eq.mpr c29
      have c29b1 : (t383 != t387) = false := bne_eq_false_iff_eq.mpr c29
      clear c29
      replace H := jD.mp H
      obtain ⟨t408, A300, H⟩ := H
      replace H : (if t408 = true then (if t397 = t401 then ((laws_likeDepots.f k t396 t400).bind fun t409 => (if t409 = true then (if t405 = t407 then (if t404 = t406 then ((impl_AreDepots.f k t373).bind fun t410 => (laws_FnDepots.j0 k t373 t374 t375 t378 t379 t382 t383 t390 t392 t393 t396 t397 t404 (t410 != (t407 == 0)))) else (laws_FnDepots.j0 k t373 t374 t375 t378 t379 t382 t383 t390 t392 t393 t396 t397 t404 true)) else (laws_FnDepots.j0 k t373 t374 t375 t378 t379 t382 t383 t390 t392 t393 t396 t397 t404 true)) else (laws_FnDepots.j0 k t373 t374 t375 t378 t379 t382 t383 t390 t392 t393 t396 t397 t404 true))) else (laws_FnDepots.j0 k t373 t374 t375 t378 t379 t382 t383 t390 t392 t393 t396 t397 t404 true)) else (laws_FnDepots.j0 k t373 t374 t375 t378 t379 t382 t383 t390 t392 t393 t396 t397 t404 true)) = some r := H
      have A30 := jA A300
      clear A300
      by_cases c31 : t408 = true
      ·as_aux_lemma =>
       subst c31
       have H1 : (if t397 = t401 then ((laws_likeDepots.f k t396 t400).bind fun t409 => (if t409 = true then (if t405 = t407 then (if t404 = t406 then ((impl_AreDepots.f k t373).bind fun t410 => (laws_FnDepots.j0 k t373 t374 t375 t378 t379 t382 t383 t390 t392 t393 t396 t397 t404 (t410 != (t407 == 0)))) else (laws_FnDepots.j0 k t373 t374 t375 t378 t379 t382 t383 t390 t392 t393 t396 t397 t404 true)) else (laws_FnDepots.j0 k t373 t374 t375 t378 t379 t382 t383 t390 t392 t393 t396 t397 t404 true)) else (laws_FnDepots.j0 k t373 t374 t375 t378 t379 t382 t383 t390 t392 t393 t396 t397 t404 true))) else (laws_FnDepots.j0 k t373 t374 t375 t378 t379 t382 t383 t390 t392 t393 t396 t397 t404 true)) = some r := by rw [if_pos rfl] at H; exact H
       clear H
       have H := H1
       clear H1
       by_cases c32 : t397 = t401
       ·as_aux_lemma =>
        rw [if_pos c32] at H
        have c32b0 : (t397 == t401) = true := beq_iff_eq.mpr c32
        have c32b1 : (t397 != t401) = false := bne_eq_false_iff_eq.mpr c32
        clear c32
        replace H := jD.mp H
        obtain ⟨t409, A330, H⟩ := H
        replace H : (if t409 = true then (if t405 = t407 then (if t404 = t406 then ((impl_AreDepots.f k t373).bind fun t410 => (laws_FnDepots.j0 k t373 t374 t375 t378 t379 t382 t383 t390 t392 t393 t396 t397 t404 (t410 != (t407 == 0)))) else (laws_FnDepots.j0 k t373 t374 t375 t378 t379 t382 t383 t390 t392 t393 t396 t397 t404 true)) else (laws_FnDepots.j0 k t373 t374 t375 t378 t379 t382 t383 t390 t392 t393 t396 t397 t404 true)) else (laws_FnDepots.j0 k t373 t374 t375 t378 t379 t382 t383 t390 t392 t393 t396 t397 t404 true)) = some r := H
        have A33 := jA A330
        clear A330
        by_cases c34 : t409 = true
        ·as_aux_lemma =>
         subst c34
         have H1 : (if t405 = t407 then (if t404 = t406 then ((impl_AreDepots.f k t373).bind fun t410 => (laws_FnDepots.j0 k t373 t374 t375 t378 t379 t382 t383 t390 t392 t393 t396 t397 t404 (t410 != (t407 == 0)))) else (laws_FnDepots.j0 k t373 t374 t375 t378 t379 t382 t383 t390 t392 t393 t396 t397 t404 true)) else (laws_FnDepots.j0 k t373 t374 t375 t378 t379 t382 t383 t390 t392 t393 t396 t397 t404 true)) = some r := by rw [if_pos rfl] at H; exact H
         clear H
         have H := H1
         clear H1
         by_cases c35 : t405 = t407
         ·as_aux_lemma =>
          rw [if_pos c35] at H
          have c35b0 : (t405 == t407) = true := beq_iff_eq.mpr c35
          have c35b1 : (t405 != t407) = false := bne_eq_false_iff_eq.mpr c35
          clear c35
          by_cases c36 : t404 = t406
          ·rw [if_pos c36] at H
           have c36b0 : (t404 == t406) = true := beq_iff_eq.mpr c36
           have c36b1 : (t404 != t406) = false := bne_eq_false_iff_eq.mpr c36
           clear c36
           replace H := jD.mp H
           obtain ⟨t410, A370, H⟩ := H
           replace H : (laws_FnDepots.j0 k t373 t374 t375 t378 t379 t382 t383 t390 t392 t393 t396 t397 t404 (t410 != (t407 == 0))) = some r := H
           have A37 := jA A370
           clear A370
           have H' := jA H
           clear H
           obtain ⟨Ao38, co38, eo38⟩ := Kd.S_slice HO385.out
           subst eo38
           obtain ⟨Ao39, co39, eo39⟩ := Kd.S_slice HO389.out
           subst eo39
           go_wp2_with (first | (go_at_call 51; (with_reducible refine (laws_likeRows.calls k _ _ t382 _ _ t386 true _ ?side1 ?side2 ?side3 ?side4 A30.out).mono ?_); (case side1 => repeat (first | exact (Kd.S_reads' HO385.out).2.2 | (with_reducible refine jO ?_ _) | (with_reducible refine jN ?_ _) | (with_reducible refine jS ?_))); (case side2 => exact (Kd.S_reads' HO385.out).2.1); (case side3 => repeat (first | exact (Kd.S_reads' HO389.out).2.2 | (with_reducible refine jO ?_ _) | (with_reducible refine jN ?_ _) | (with_reducible refine jS ?_))); (case side4 => exact (Kd.S_reads' HO389.out).2.1); rintro e w' ⟨rfl, ⟨nd, rfl⟩⟩; obtain ⟨Ao40, co40, eo40⟩ := Kd.R_slice HO399.out; subst eo40; obtain ⟨Ao41, co41, eo41⟩ := Kd.R_slice HO403.out; subst eo41) | (go_at_call 52; (with_reducible refine (laws_likeDepots.calls k _ _ t396 _ _ t400 true _ ?side1 ?side2 ?side3 ?side4 A33.out).mono ?_); (case side1 => repeat (first | exact (jF HO399.out).2.2 | (with_reducible refine jO ?_ _) | (with_reducible refine jN ?_ _) | (with_reducible refine jS ?_))); (case side2 => exact (jF HO399.out).2.1); (case side3 => repeat (first | exact (jF HO403.out).2.2 | (with_reducible refine jO ?_ _) | (with_reducible refine jN ?_ _) | (with_reducible refine jS ?_))); (case side4 => exact (jF HO403.out).2.1); rintro e w' ⟨rfl, ⟨nd, rfl⟩⟩) | (go_at_call 22; (with_reducible refine (impl_AreDepots.calls k _ _ t373 t410 _ ?side1 ?side2 A37.out).mono ?_); (case side1 => repeat (first | exact (jF HO377.out).2.2 | (with_reducible refine jO ?_ _) | (with_reducible refine jN ?_ _) | (with_reducible refine jS ?_))); (case side2 => exact (jF HO377.out).2.1); rintro e w42 ⟨rfl, hb⟩; have n0_ := jA (Kd.R_below (zo HO377) hb); have n1_ := jA (Kd.S_below (by (with_reducible repeat (first | apply Kd.S_alloc | apply Kd.S_drewN | apply Kd.S_drew)); exact HO385.out) hb); have n2_ := jA (Kd.S_below (by (with_reducible repeat (first | apply Kd.S_alloc | apply Kd.S_drewN | apply Kd.S_drew)); exact HO389.out) hb); have n3_ := jA (Kd.R_below (zo HO395) hb); have n4_ := jA (Kd.R_below (zo HO399) hb); have n5_ := jA (Kd.R_below (zo HO403) hb); have n6_ := jA (jT (zb0 HB) hb); clear HO377; clear HO385; clear HO389; clear HO395; clear HO399; clear HO403; clear HB; have HO377 := n0_; have HO385 := n1_; have HO389 := n2_; have HO395 := n3_; have HO399 := n4_; have HO403 := n5_; have HB := n6_; clear n0_ n1_ n2_ n3_ n4_ n5_ n6_; (try clear hb); (try clear hb2); (try clear hk); (try clear hi)))
           go_meet
           case rel => exact ⟨_, ((t410 != (t407 == 0))), zz, H', ⟨by first | omega | exact Nat.le_refl _⟩, ⟨by (with_reducible repeat (first | apply ja | apply jZ | apply jX)); exact Kd.R_mono HO377.out (fun _ hk => ⟨hk.1.1.2, hk.1.2⟩)⟩, ⟨by (with_reducible repeat (first | apply Kd.S_alloc | apply Kd.S_drewN | apply Kd.S_drew)); exact Kd.S_mono HO385.out (fun _ hk => trivial)⟩, ⟨by (with_reducible repeat (first | apply ja | apply jZ | apply jX)); exact Kd.R_mono HO395.out (fun _ hk => ⟨hk.1.1.2, hk.1.2⟩)⟩, ⟨by (with_reducible repeat (first | apply ja | apply jZ | apply jX)); exact Kd.R_mono HO399.out (fun _ hk => ⟨hk.1.1.2, hk.1.2⟩)⟩, ⟨zb0 HB⟩⟩
          ·rw [if_neg c36] at H
           have c36b0 : (t404 == t406) = false := beq_eq_false_iff_ne.mpr c36
           have c36b1 : (t404 != t406) = true := bne_iff_ne.mpr c36
           have H' := jA H
           clear H
           obtain ⟨Ao43, co43, eo43⟩ := Kd.S_slice HO385.out
           subst eo43
           obtain ⟨Ao44, co44, eo44⟩ := Kd.S_slice HO389.out
           subst eo44
           go_wp2_with (first | (go_at_call 51; (with_reducible refine (laws_likeRows.calls k _ _ t382 _ _ t386 true _ ?side1 ?side2 ?side3 ?side4 A30.out).mono ?_); (case side1 => repeat (first | exact (Kd.S_reads' HO385.out).2.2 | (with_reducible refine jO ?_ _) | (with_reducible refine jN ?_ _) | (with_reducible refine jS ?_))); (case side2 => exact (Kd.S_reads' HO385.out).2.1); (case side3 => repeat (first | exact (Kd.S_reads' HO389.out).2.2 | (with_reducible refine jO ?_ _) | (with_reducible refine jN ?_ _) | (with_reducible refine jS ?_))); (case side4 => exact (Kd.S_reads' HO389.out).2.1); rintro e w' ⟨rfl, ⟨nd, rfl⟩⟩; obtain ⟨Ao45, co45, eo45⟩ := Kd.R_slice HO399.out; subst eo45; obtain ⟨Ao46, co46, eo46⟩ := Kd.R_slice HO403.out; subst eo46) | (go_at_call 52; (with_reducible refine (laws_likeDepots.calls k _ _ t396 _ _ t400 true _ ?side1 ?side2 ?side3 ?side4 A33.out).mono ?_); (case side1 => repeat (first | exact (jF HO399.out).2.2 | (with_reducible refine jO ?_ _) | (with_reducible refine jN ?_ _) | (with_reducible refine jS ?_))); (case side2 => exact (jF HO399.out).2.1); (case side3 => repeat (first | exact (jF HO403.out).2.2 | (with_reducible refine jO ?_ _) | (with_reducible refine jN ?_ _) | (with_reducible refine jS ?_))); (case side4 => exact (jF HO403.out).2.1); rintro e w' ⟨rfl, ⟨nd, rfl⟩⟩))
           go_meet
           case rel => exact ⟨_, (true), zz, H', ⟨by first | omega | exact Nat.le_refl _⟩, ⟨by (with_reducible repeat (first | apply ja | apply jZ | apply jX)); exact Kd.R_mono HO377.out (fun _ hk => ⟨hk.1.1.2, hk.1.2⟩)⟩, ⟨by (with_reducible repeat (first | apply Kd.S_alloc | apply Kd.S_drewN | apply Kd.S_drew)); exact Kd.S_mono HO385.out (fun _ hk => trivial)⟩, ⟨by (with_reducible repeat (first | apply ja | apply jZ | apply jX)); exact Kd.R_mono HO395.out (fun _ hk => ⟨hk.1.1.2, hk.1.2⟩)⟩, ⟨by (with_reducible repeat (first | apply ja | apply jZ | apply jX)); exact Kd.R_mono HO399.out (fun _ hk => ⟨hk.1.1.2, hk.1.2⟩)⟩, ⟨zb0 HB⟩⟩
         ·rw [if_neg c35] at H
          have c35b0 : (t405 == t407) = false := beq_eq_false_iff_ne.mpr c35
          have c35b1 : (t405 != t407) = true := bne_iff_ne.mpr c35
          have H' := jA H
          clear H
          obtain ⟨Ao47, co47, eo47⟩ := Kd.S_slice HO385.out
          subst eo47
          obtain ⟨Ao48, co48, eo48⟩ := Kd.S_slice HO389.out
          subst eo48
          go_wp2_with (first | (go_at_call 51; (with_reducible refine (laws_likeRows.calls k _ _ t382 _ _ t386 true _ ?side1 ?side2 ?side3 ?side4 A30.out).mono ?_); (case side1 => repeat (first | exact (Kd.S_reads' HO385.out).2.2 | (with_reducible refine jO ?_ _) | (with_reducible refine jN ?_ _) | (with_reducible refine jS ?_))); (case side2 => exact (Kd.S_reads' HO385.out).2.1); (case side3 => repeat (first | exact (Kd.S_reads' HO389.out).2.2 | (with_reducible refine jO ?_ _) | (with_reducible refine jN ?_ _) | (with_reducible refine jS ?_))); (case side4 => exact (Kd.S_reads' HO389.out).2.1); rintro e w' ⟨rfl, ⟨nd, rfl⟩⟩; obtain ⟨Ao49, co49, eo49⟩ := Kd.R_slice HO399.out; subst eo49; obtain ⟨Ao50, co50, eo50⟩ := Kd.R_slice HO403.out; subst eo50) | (go_at_call 52; (with_reducible refine (laws_likeDepots.calls k _ _ t396 _ _ t400 true _ ?side1 ?side2 ?side3 ?side4 A33.out).mono ?_); (case side1 => repeat (first | exact (jF HO399.out).2.2 | (with_reducible refine jO ?_ _) | (with_reducible refine jN ?_ _) | (with_reducible refine jS ?_))); (case side2 => exact (jF HO399.out).2.1); (case side3 => repeat (first | exact (jF HO403.out).2.2 | (with_reducible refine jO ?_ _) | (with_reducible refine jN ?_ _) | (with_reducible refine jS ?_))); (case side4 => exact (jF HO403.out).2.1); rintro e w' ⟨rfl, ⟨nd, rfl⟩⟩))
          go_meet
          case rel => exact ⟨_, (true), zz, H', ⟨by first | omega | exact Nat.le_refl _⟩, ⟨by (with_reducible repeat (first | apply ja | apply jZ | apply jX)); exact Kd.R_mono HO377.out (fun _ hk => ⟨hk.1.1.2, hk.1.2⟩)⟩, ⟨by (with_reducible repeat (first | apply Kd.S_alloc | apply Kd.S_drewN | apply Kd.S_drew)); exact Kd.S_mono HO385.out (fun _ hk => trivial)⟩, ⟨by (with_reducible repeat (first | apply ja | apply jZ | apply jX)); exact Kd.R_mono HO395.out (fun _ hk => ⟨hk.1.1.2, hk.1.2⟩)⟩, ⟨by (with_reducible repeat (first | apply ja | apply jZ | apply jX)); exact Kd.R_mono HO399.out (fun _ hk => ⟨hk.1.1.2, hk.1.2⟩)⟩, ⟨zb0 HB⟩⟩
        ·replace c34 := Bool.eq_false_iff.mpr c34
         subst c34
         have H1 : (laws_FnDepots.j0 k t373 t374 t375 t378 t379 t382 t383 t390 t392 t393 t396 t397 t404 true) = some r := by rw [if_neg (show ¬ (false = true) by decide)] at H; exact H
         clear H
         have H := H1
         clear H1
         have H' := jA H
         clear H
         obtain ⟨Ao51, co51, eo51⟩ := Kd.S_slice HO385.out
         subst eo51
         obtain ⟨Ao52, co52, eo52⟩ := Kd.S_slice HO389.out
         subst eo52
         go_wp2_with (first | (go_at_call 51; (with_reducible refine (laws_likeRows.calls k _ _ t382 _ _ t386 true _ ?side1 ?side2 ?side3 ?side4 A30.out).mono ?_); (case side1 => repeat (first | exact (Kd.S_reads' HO385.out).2.2 | (with_reducible refine jO ?_ _) | (with_reducible refine jN ?_ _) | (with_reducible refine jS ?_))); (case side2 => exact (Kd.S_reads' HO385.out).2.1); (case side3 => repeat (first | exact (Kd.S_reads' HO389.out).2.2 | (with_reducible refine jO ?_ _) | (with_reducible refine jN ?_ _) | (with_reducible refine jS ?_))); (case side4 => exact (Kd.S_reads' HO389.out).2.1); rintro e w' ⟨rfl, ⟨nd, rfl⟩⟩; obtain ⟨Ao53, co53, eo53⟩ := Kd.R_slice HO399.out; subst eo53; obtain ⟨Ao54, co54, eo54⟩ := Kd.R_slice HO403.out; subst eo54) | (go_at_call 52; (with_reducible refine (laws_likeDepots.calls k _ _ t396 _ _ t400 false _ ?side1 ?side2 ?side3 ?side4 A33.out).mono ?_); (case side1 => repeat (first | exact (jF HO399.out).2.2 | (with_reducible refine jO ?_ _) | (with_reducible refine jN ?_ _) | (with_reducible refine jS ?_))); (case side2 => exact (jF HO399.out).2.1); (case side3 => repeat (first | exact (jF HO403.out).2.2 | (with_reducible refine jO ?_ _) | (with_reducible refine jN ?_ _) | (with_reducible refine jS ?_))); (case side4 => exact (jF HO403.out).2.1); rintro e w' ⟨rfl, ⟨nd, rfl⟩⟩))
         go_meet
         case rel => exact ⟨_, (true), zz, H', ⟨by first | omega | exact Nat.le_refl _⟩, ⟨by (with_reducible repeat (first | apply ja | apply jZ | apply jX)); exact Kd.R_mono HO377.out (fun _ hk => ⟨hk.1.1.2, hk.1.2⟩)⟩, ⟨by (with_reducible repeat (first | apply Kd.S_alloc | apply Kd.S_drewN | apply Kd.S_drew)); exact Kd.S_mono HO385.out (fun _ hk => trivial)⟩, ⟨by (with_reducible repeat (first | apply ja | apply jZ | apply jX)); exact Kd.R_mono HO395.out (fun _ hk => ⟨hk.1.1.2, hk.1.2⟩)⟩, ⟨by (with_reducible repeat (first | apply ja | apply jZ | apply jX)); exact Kd.R_mono HO399.out (fun _ hk => ⟨hk.1.1.2, hk.1.2⟩)⟩, ⟨zb0 HB⟩⟩
       ·rw [if_neg c32] at H
        have c32b0 : (t397 == t401) = false := beq_eq_false_iff_ne.mpr c32
        have c32b1 : (t397 != t401) = true := bne_iff_ne.mpr c32
        have H' := jA H
        clear H
        obtain ⟨Ao55, co55, eo55⟩ := Kd.S_slice HO385.out
        subst eo55
        obtain ⟨Ao56, co56, eo56⟩ := Kd.S_slice HO389.out
        subst eo56
        go_wp2_with (first | (go_at_call 51; (with_reducible refine (laws_likeRows.calls k _ _ t382 _ _ t386 true _ ?side1 ?side2 ?side3 ?side4 A30.out).mono ?_); (case side1 => repeat (first | exact (Kd.S_reads' HO385.out).2.2 | (with_reducible refine jO ?_ _) | (with_reducible refine jN ?_ _) | (with_reducible refine jS ?_))); (case side2 => exact (Kd.S_reads' HO385.out).2.1); (case side3 => repeat (first | exact (Kd.S_reads' HO389.out).2.2 | (with_reducible refine jO ?_ _) | (with_reducible refine jN ?_ _) | (with_reducible refine jS ?_))); (case side4 => exact (Kd.S_reads' HO389.out).2.1); rintro e w' ⟨rfl, ⟨nd, rfl⟩⟩))
        go_meet
        case rel => exact ⟨_, (true), zz, H', ⟨by first | omega | exact Nat.le_refl _⟩, ⟨by (with_reducible repeat (first | apply ja | apply jZ | apply jX)); exact Kd.R_mono HO377.out (fun _ hk => ⟨hk.1.1.2, hk.1.2⟩)⟩, ⟨by (with_reducible repeat (first | apply Kd.S_alloc | apply Kd.S_drewN | apply Kd.S_drew)); exact Kd.S_mono HO385.out (fun _ hk => trivial)⟩, ⟨by (with_reducible repeat (first | apply ja | apply jZ | apply jX)); exact Kd.R_mono HO395.out (fun _ hk => ⟨hk.1.1.2, hk.1.2⟩)⟩, ⟨by (with_reducible repeat (first | apply ja | apply jZ | apply jX)); exact Kd.R_mono HO399.out (fun _ hk => ⟨hk.1.1.2, hk.1.2⟩)⟩, ⟨zb0 HB⟩⟩
      ·replace c31 := Bool.eq_false_iff.mpr c31
       subst c31
       have H1 : (laws_FnDepots.j0 k t373 t374 t375 t378 t379 t382 t383 t390 t392 t393 t396 t397 t404 true) = some r := by rw [if_neg (show ¬ (false = true) by decide)] at H; exact H
       clear H
       have H := H1
       clear H1
       have H' := jA H
       clear H
       obtain ⟨Ao57, co57, eo57⟩ := Kd.S_slice HO385.out
       subst eo57
       obtain ⟨Ao58, co58, eo58⟩ := Kd.S_slice HO389.out
       subst eo58
       go_wp2_with (first | (go_at_call 51; (with_reducible refine (laws_likeRows.calls k _ _ t382 _ _ t386 false _ ?side1 ?side2 ?side3 ?side4 A30.out).mono ?_); (case side1 => repeat (first | exact (Kd.S_reads' HO385.out).2.2 | (with_reducible refine jO ?_ _) | (with_reducible refine jN ?_ _) | (with_reducible refine jS ?_))); (case side2 => exact (Kd.S_reads' HO385.out).2.1); (case side3 => repeat (first | exact (Kd.S_reads' HO389.out).2.2 | (with_reducible refine jO ?_ _) | (with_reducible refine jN ?_ _) | (with_reducible refine jS ?_))); (case side4 => exact (Kd.S_reads' HO389.out).2.1); rintro e w' ⟨rfl, ⟨nd, rfl⟩⟩))
       go_meet
       case rel => exact ⟨_, (true), zz, H', ⟨by first | omega | exact Nat.le_refl _⟩, ⟨by (with_reducible repeat (first | apply ja | apply jZ | apply jX)); exact Kd.R_mono HO377.out (fun _ hk => ⟨hk.1.1.2, hk.1.2⟩)⟩, ⟨by (with_reducible repeat (first | apply Kd.S_alloc | apply Kd.S_drewN | apply Kd.S_drew)); exact Kd.S_mono HO385.out (fun _ hk => trivial)⟩, ⟨by (with_reducible repeat (first | apply ja | apply jZ | apply jX)); exact Kd.R_mono HO395.out (fun _ hk => ⟨hk.1.1.2, hk.1.2⟩)⟩, ⟨by (with_reducible repeat (first | apply ja | apply jZ | apply jX)); exact Kd.R_mono HO399.out (fun _ hk => ⟨hk.1.1.2, hk.1.2⟩)⟩, ⟨zb0 HB⟩⟩
     ·rw [if_neg c29] at H
      have c29b0 : (t383 == t387) = false := beq_eq_false_iff_ne.mpr c29
      have c29b1 : (t383 != t387) = true := bne_iff_ne.mpr c29
      have H' := jA H
      clear H
      go_wp2
      go_meet
      case rel => exact ⟨_, (true), zz, H', ⟨by first | omega | exact Nat.le_refl _⟩, ⟨by (with_reducible repeat (first | apply ja | apply jZ | apply jX)); exact Kd.R_mono HO377.out (fun _ hk => ⟨hk.1.1.2, hk.1.2⟩)⟩, ⟨by (with_reducible repeat (first | apply Kd.S_alloc | apply Kd.S_drewN | apply Kd.S_drew)); exact Kd.S_mono HO385.out (fun _ hk => trivial)⟩, ⟨by (with_reducible repeat (first | apply ja | apply jZ | apply jX)); exact Kd.R_mono HO395.out (fun _ hk => ⟨hk.1.1.2, hk.1.2⟩)⟩, ⟨by (with_reducible repeat (first | apply ja | apply jZ | apply jX)); exact Kd.R_mono HO399.out (fun _ hk => ⟨hk.1.1.2, hk.1.2⟩)⟩, ⟨zb0 HB⟩⟩
    ·rw [if_neg c28] at H
     have c28b0 : (t378 == t380) = false := beq_eq_false_iff_ne.mpr c28
     have c28b1 : (t378 != t380) = true := bne_iff_ne.mpr c28
     have H' := jA H
     clear H
     go_wp2
     go_meet
     case rel => exact ⟨_, (true), zz, H', ⟨by first | omega | exact Nat.le_refl _⟩, ⟨by (with_reducible repeat (first | apply ja | apply jZ | apply jX)); exact Kd.R_mono HO377.out (fun _ hk => ⟨hk.1.1.2, hk.1.2⟩)⟩, ⟨by (with_reducible repeat (first | apply Kd.S_alloc | apply Kd.S_drewN | apply Kd.S_drew)); exact Kd.S_mono HO385.out (fun _ hk => trivial)⟩, ⟨by (with_reducible repeat (first | apply ja | apply jZ | apply jX)); exact Kd.R_mono HO395.out (fun _ hk => ⟨hk.1.1.2, hk.1.2⟩)⟩, ⟨by (with_reducible repeat (first | apply ja | apply jZ | apply jX)); exact Kd.R_mono HO399.out (fun _ hk => ⟨hk.1.1.2, hk.1.2⟩)⟩, ⟨zb0 HB⟩⟩
   ·rw [if_neg c27] at H
    have c27b0 : (t379 == t381) = false := beq_eq_false_iff_ne.mpr c27
    have c27b1 : (t379 != t381) = true := bne_iff_ne.mpr c27
    (first | rw [c27b0] | (simp only [i64_w, i32_w]; rw [c27b0]) | skip)
    have H' := jA H
    clear H
    go_wp2
    go_meet
    case rel => exact ⟨_, (true), zz, H', ⟨by first | omega | exact Nat.le_refl _⟩, ⟨by (with_reducible repeat (first | apply ja | apply jZ | apply jX)); exact Kd.R_mono HO377.out (fun _ hk => ⟨hk.1.1.2, hk.1.2⟩)⟩, ⟨by (with_reducible repeat (first | apply Kd.S_alloc | apply Kd.S_drewN | apply Kd.S_drew)); exact Kd.S_mono HO385.out (fun _ hk => trivial)⟩, ⟨by (with_reducible repeat (first | apply ja | apply jZ | apply jX)); exact Kd.R_mono HO395.out (fun _ hk => ⟨hk.1.1.2, hk.1.2⟩)⟩, ⟨by (with_reducible repeat (first | apply ja | apply jZ | apply jX)); exact Kd.R_mono HO399.out (fun _ hk => ⟨hk.1.1.2, hk.1.2⟩)⟩, ⟨zb0 HB⟩⟩
  case rest =>
   clear HC14
   try clear c1
   try clear c2
   try clear p2
   try clear c3
   try clear c4
   try clear c5
   try clear c14
   try clear c24
   try clear c27
   try clear c27b0
   try clear c27b1
   try clear c28
   try clear c28b0
   try clear c28b1
   try clear c29
   try clear c29b0
   try clear c29b1
   try clear c31
   try clear c32
   try clear c32b0
   try clear c32b1
   try clear c33
   try clear c34
   try clear c35
   try clear c35b0
   try clear c35b1
   try clear c36
   try clear c36b0
   try clear c36b1
   try clear c40
   try clear c41
   try clear c42
   try clear c43
   try clear c44
   try clear c45
   try clear c49
   try clear c50
   obtain ⟨kq, x148_13, rfl, HA, HJ13, HO_3, HO_10, HO_14, HO_18, HB⟩ := hcut
   cases kq with
   | zero => exact absurd HA.out (by simp [laws_FnDepots.j0])
   | succ kj13 =>
    have H := HA.out
    clear HA
    simp only [laws_FnDepots.j0] at H
    by_cases c59 : x148_13 = true
    ·subst c59
     have H1 : (some false) = some r := by rw [if_pos rfl] at H; exact H
     clear H
     have H := H1
     clear H1
     obtain rfl := jM H
     go_wp2
     go_ret
     exact ⟨by first | rfl | (simp [errW_none, errW_some] <;> rfl) | (simp [*, errW_none, errW_some] <;> rfl), zb0 HB⟩
    ·as_aux_lemma =>
     replace c59 := Bool.eq_false_iff.mpr c59
     subst c59
     have H1 : (if t383 = 0 then (laws_FnDepots.j1 kj13 t373 t374 t375 t378 t379 t390 t392 t393 t396 t397 (((t382.length : Int) == 0) != (decide (t374 ≤ t404)))) else (laws_FnDepots.j1 kj13 t373 t374 t375 t378 t379 t390 t392 t393 t396 t397 false)) = some r := by rw [if_neg (show ¬ (false = true) by decide)] at H; exact H
     clear H
     have H := H1
     clear H1
     have HC60 := jA H
     clear H
     go_upto_region 15 with (fail)
     go_cut [159] (fun v159 wc => ∃ (kq : Nat) (x159_59 : Bool), v159 = .bool x159_59 ∧ Aside0 (laws_FnDepots.j1 kq t373 t374 t375 t378 t379 t390 t392 t393 t396 t397 x159_59 = some r) ∧ Aside0 (kq ≤ kj13) ∧ Aside0 (Kd.R k51 51 wc w.heap.size (fun k_ => some k_ ≠ ((.slice Ao22 t390.length co22) : Value).ownBlock ∧ some k_ ≠ (v398 : Value).ownBlock) (.slice Ao16 t373.length co16) t373) ∧ Aside0 (Kd.R k51 51 wc w.heap.size (fun k_ => some k_ ≠ ((.slice Ao16 t373.length co16) : Value).ownBlock ∧ some k_ ≠ (v398 : Value).ownBlock) (.slice Ao22 t390.length co22) t390) ∧ Aside0 (Kd.R k51 51 wc w.heap.size (fun k_ => some k_ ≠ ((.slice Ao16 t373.length co16) : Value).ownBlock ∧ some k_ ≠ ((.slice Ao22 t390.length co22) : Value).ownBlock) v398 t396) ∧ Aside0 (Below w.heap.size w wc))
     case first =>
      have H := HC60.out
      clear HC60
      by_cases c61 : t383 = 0
      ·rw [if_pos c61] at H
       have c61b0 : (t383 == 0) = true := beq_iff_eq.mpr c61
       have c61b1 : (t383 != 0) = false := bne_eq_false_iff_eq.mpr c61
       clear c61
       (first | rw [c61b0] | (simp only [i64_w, i32_w]; rw [c61b0]) | skip)
       have H' := jA H
       clear H
       obtain ⟨Ao62, co62, eo62⟩ := Kd.S_slice HO_10.out
       subst eo62
       go_wp2
       go_meet
       case rel => exact ⟨_, ((((t382.length : Int) == 0) != (decide (t374 ≤ t404)))), zz, H', ⟨by have := HJ13.out; first | omega | exact Nat.le_refl _⟩, ⟨by (with_reducible repeat (first | apply ja | apply jZ | apply jX)); exact HO_3.out⟩, ⟨by (with_reducible repeat (first | apply ja | apply jZ | apply jX)); exact HO_14.out⟩, ⟨by (with_reducible repeat (first | apply ja | apply jZ | apply jX)); exact HO_18.out⟩, ⟨zb0 HB⟩⟩
      ·rw [if_neg c61] at H
       have c61b0 : (t383 == 0) = false := beq_eq_false_iff_ne.mpr c61
       have c61b1 : (t383 != 0) = true := bne_iff_ne.mpr c61
       (first | rw [c61b0] | (simp only [i64_w, i32_w]; rw [c61b0]) | skip)
       have H' := jA H
       clear H
       go_wp2
       go_meet
       case rel => exact ⟨_, (false), zz, H', ⟨by have := HJ13.out; first | omega | exact Nat.le_refl _⟩, ⟨by (with_reducible repeat (first | apply ja | apply jZ | apply jX)); exact HO_3.out⟩, ⟨by (with_reducible repeat (first | apply ja | apply jZ | apply jX)); exact HO_14.out⟩, ⟨by (with_reducible repeat (first | apply ja | apply jZ | apply jX)); exact HO_18.out⟩, ⟨zb0 HB⟩⟩
     case rest =>
      clear HC60
      try clear c1
      try clear c2
      try clear p2
      try clear c3
      try clear c4
      try clear c5
      try clear c6
      try clear c14
      try clear c24
      try clear c27
      try clear c27b0
      try clear c27b1
      try clear c28
      try clear c28b0
      try clear c28b1
      try clear c29
      try clear c29b0
      try clear c29b1
      try clear c31
      try clear c32
      try clear c32b0
      try clear c32b1
      try clear c33
      try clear c34
      try clear c35
      try clear c35b0
      try clear c35b1
      try clear c36
      try clear c36b0
      try clear c36b1
      try clear c40
      try clear c41
      try clear c42
      try clear c43
      try clear c44
      try clear c45
      try clear c49
      try clear c50
      try clear c59
      try clear c61
      try clear c61b0
      try clear c61b1
      try clear p2
      obtain ⟨kq, x159_59, rfl, HA, HJ59, HO_3, HO_14, HO_18, HB⟩ := hcut
      cases kq with
      | zero => exact absurd HA.out (by simp [laws_FnDepots.j1])
      | succ kj59 =>
       have H := HA.out
       clear HA
       simp only [laws_FnDepots.j1] at H
       by_cases c63 : x159_59 = true
       ·subst c63
        have H1 : (some false) = some r := by rw [if_pos rfl] at H; exact H
        clear H
        have H := H1
        clear H1
        obtain rfl := jM H
        go_wp2
        go_ret
        exact ⟨by first | rfl | (simp [errW_none, errW_some] <;> rfl) | (simp [*, errW_none, errW_some] <;> rfl), zb0 HB⟩
       ·as_aux_lemma =>
        replace c63 := Bool.eq_false_iff.mpr c63
        subst c63
        have H1 : (if t397 = 0 then (laws_FnDepots.l0 kj59 t373 t374 t375 t378 t379 t390 t392 t393 t396 0 0 0) else (laws_FnDepots.j3 kj59 t373 t374 t375 t378 t379)) = some r := by rw [if_neg (show ¬ (false = true) by decide)] at H; exact H
        clear H
        have H := H1
        clear H1
        have HC64 := jA H
        clear H
        go_upto_if 161 with (fail)
        go_cut [] (fun wc => ∃ (kq : Nat), Aside0 (laws_FnDepots.j3 kq t373 t374 t375 t378 t379 = some r) ∧ Aside0 (kq ≤ kj59) ∧ Aside0 (Kd.R k51 51 wc w.heap.size (fun _ => True) (.slice Ao16 t373.length co16) t373) ∧ Aside0 (Below w.heap.size w wc))
        case first =>
         have H := HC64.out
         clear HC64
         by_cases c65 : t397 = 0
         ·as_aux_lemma =>
          rw [if_pos c65] at H
          have c65b0 : (t397 == 0) = true := beq_iff_eq.mpr c65
          have c65b1 : (t397 != 0) = false := bne_eq_false_iff_eq.mpr c65
          clear c65
          (first | rw [c65b0] | (simp only [i64_w, i32_w]; rw [c65b0]) | skip)
          have H' := jA H
          clear H
          go_wp2
          go_loopg [26, 27, 28] kj59 (fun kq v26 v27 v28 w' => ∃ (x26_3 : Int) (x27_3 : Int) (x28_3 : Int), v26 = .int .i64 x26_3 ∧ v27 = .int .i64 x27_3 ∧ v28 = .int .i64 x28_3 ∧ Aside0 (laws_FnDepots.l0 kq t373 t374 t375 t378 t379 t390 t392 t393 t396 x26_3 x27_3 x28_3 = some r) ∧ Aside0 (kq ≤ kj59) ∧ Aside0 (Kd.R k51 51 w' w.heap.size (fun k_ => some k_ ≠ ((.slice Ao22 t390.length co22) : Value).ownBlock ∧ some k_ ≠ (v398 : Value).ownBlock) (.slice Ao16 t373.length co16) t373) ∧ Aside0 (Kd.R k51 51 w' w.heap.size (fun k_ => some k_ ≠ ((.slice Ao16 t373.length co16) : Value).ownBlock ∧ some k_ ≠ (v398 : Value).ownBlock) (.slice Ao22 t390.length co22) t390) ∧ Aside0 (Kd.R k51 51 w' w.heap.size (fun k_ => some k_ ≠ ((.slice Ao16 t373.length co16) : Value).ownBlock ∧ some k_ ≠ ((.slice Ao22 t390.length co22) : Value).ownBlock) v398 t396) ∧ Aside0 (Below w.heap.size w w'))
          case atStart => exact ⟨(0), (0), (0), zz, zz, zz, H', ⟨Nat.le_refl _⟩, ⟨by (with_reducible repeat (first | apply ja | apply jZ | apply jX)); exact HO_3.out⟩, ⟨by (with_reducible repeat (first | apply ja | apply jZ | apply jX)); exact HO_14.out⟩, ⟨by (with_reducible repeat (first | apply ja | apply jZ | apply jX)); exact HO_18.out⟩, ⟨zb0 HB⟩⟩
          case round =>
           clear H'
           try clear c1
           try clear c2
           try clear p2
           try clear c3
           try clear c4
           try clear c5
           try clear c6
           try clear c14
           try clear c24
           try clear c27
           try clear c27b0
           try clear c27b1
           try clear c28
           try clear c28b0
           try clear c28b1
           try clear c29
           try clear c29b0
           try clear c29b1
           try clear c31
           try clear c32
           try clear c32b0
           try clear c32b1
           try clear c33
           try clear c34
           try clear c35
           try clear c35b0
           try clear c35b1
           try clear c36
           try clear c36b0
           try clear c36b1
           try clear c40
           try clear c41
           try clear c42
           try clear c43
           try clear c44
           try clear c45
           try clear c49
           try clear c50
           try clear c59
           try clear c61
           try clear c61b0
           try clear c61b1
           try clear c63
           try clear c65
           try clear c65b0
           try clear c65b1
           try clear p2
           obtain ⟨x26_3, x27_3, x28_3, rfl, rfl, rfl, HA, HK3, HO_3, HO_14, HO_18, HB⟩ := hrel
           cases gk with
           | zero => exact absurd HA.out (by simp [laws_FnDepots.l0])
           | succ k3 =>
            have H := HA.out
            clear HA
            simp only [laws_FnDepots.l0] at H
            by_cases c66 : x28_3 < (t390.length : Int)
            ·as_aux_lemma =>
             rw [if_pos c66] at H
             have c66b0 : decide (x28_3 < (t390.length : Int)) = true := jG c66
             clear c66
             by_cases c67 : 0 ≤ x28_3
             ·rw [if_pos c67] at H
              have c67b0 : decide (0 ≤ x28_3) = true := jG c67
              clear c67
              by_cases c68 : x28_3 < (t396.length : Int)
              ·rw [if_pos c68] at H
               have c68b0 : decide (x28_3 < (t396.length : Int)) = true := jG c68
               clear c68
               have H' := jA H
               clear H
               have p411 : 0 ≤ (x28_3 : Int) := jB za
               have q411 : x28_3 < (t390.length : Int) := jB za
               obtain ⟨ad411, e411, hx411_0, hx411_1, hx411_2⟩ := at_T51 (jF HO_14.out).2.2 x28_3 p411 q411
               cases e411
               replace p411 := eq_true p411
               replace q411 := eq_true q411
               obtain ⟨Ao69, co69, eo69⟩ := Kd.R_slice HO_18.out
               subst eo69
               have p412 : 0 ≤ (x28_3 : Int) := jB za
               have q412 : x28_3 < (t396.length : Int) := jB za
               obtain ⟨ad412, e412, hx412_0, hx412_1, hx412_2⟩ := at_T51 (jF HO_18.out).2.2 x28_3 p412 q412
               cases e412
               replace p412 := eq_true p412
               replace q412 := eq_true q412
               go_wp2
               go_roundg k3
               case measure => have := HJ13.out; have := HJ59.out; have := HK3.out; omega
               case rel => exact ⟨(wrap64 (x26_3 + ((rd_T51 t390 x28_3).f2))), (wrap64 (x27_3 + ((rd_T51 t396 x28_3).f2))), (wrap64 (x28_3 + 1)), zz, zz, zz, H', ⟨by have := HJ13.out; have := HJ59.out; have := HK3.out; omega⟩, ⟨by (with_reducible repeat (first | apply ja | apply jZ | apply jX)); exact HO_3.out⟩, ⟨by (with_reducible repeat (first | apply ja | apply jZ | apply jX)); exact HO_14.out⟩, ⟨by (with_reducible repeat (first | apply ja | apply jZ | apply jX)); exact HO_18.out⟩, ⟨zb0 HB⟩⟩
              ·rw [if_neg c68] at H
               exact absurd H (by simp)
             ·rw [if_neg c67] at H
              exact absurd H (by simp)
            ·as_aux_lemma =>
             rw [if_neg c66] at H
             have c66b0 : decide (x28_3 < (t390.length : Int)) = false := jb c66
             clear c66
             by_cases c70 : x26_3 = x27_3
             ·as_aux_lemma =>
              rw [if_pos c70] at H
              have c70b0 : (x26_3 == x27_3) = true := beq_iff_eq.mpr c70
              have c70b1 : (x26_3 != x27_3) = false := bne_eq_false_iff_eq.mpr c70
              clear c70
              replace H := jD.mp H
              obtain ⟨t413, A710, H⟩ := H
              replace H : (if t413 = true then (if 0 ≤ t392 then (if t392 < (t396.length : Int) then (if t392 < (t390.length : Int) then (if ((rd_T51 t396 t392).f2) = (wrap64 (((rd_T51 t390 t392).f2) + t393)) then (laws_FnDepots.j3 k3 t373 t374 t375 t378 t379) else (some false)) else (none)) else (none)) else (none)) else (some false)) = some r := H
              have A71 := jA A710
              clear A710
              by_cases c72 : t413 = true
              ·as_aux_lemma =>
               subst c72
               have H1 : (if 0 ≤ t392 then (if t392 < (t396.length : Int) then (if t392 < (t390.length : Int) then (if ((rd_T51 t396 t392).f2) = (wrap64 (((rd_T51 t390 t392).f2) + t393)) then (laws_FnDepots.j3 k3 t373 t374 t375 t378 t379) else (some false)) else (none)) else (none)) else (none)) = some r := by rw [if_pos rfl] at H; exact H
               clear H
               have H := H1
               clear H1
               by_cases c73 : 0 ≤ t392
               ·as_aux_lemma =>
                rw [if_pos c73] at H
                have c73b0 : decide (0 ≤ t392) = true := jG c73
                clear c73
                by_cases c74 : t392 < (t396.length : Int)
                ·as_aux_lemma =>
                 rw [if_pos c74] at H
                 have c74b0 : decide (t392 < (t396.length : Int)) = true := jG c74
                 clear c74
                 by_cases c75 : t392 < (t390.length : Int)
                 ·as_aux_lemma =>
                  rw [if_pos c75] at H
                  have c75b0 : decide (t392 < (t390.length : Int)) = true := jG c75
                  clear c75
                  by_cases c76 : ((rd_T51 t396 t392).f2) = (wrap64 (((rd_T51 t390 t392).f2) + t393))
                  ·as_aux_lemma =>
                   rw [if_pos c76] at H
                   have c76b0 : (((rd_T51 t396 t392).f2) == (wrap64 (((rd_T51 t390 t392).f2) + t393))) = true := beq_iff_eq.mpr c76
                   have c76b1 : (((rd_T51 t396 t392).f2) != (wrap64 (((rd_T51 t390 t392).f2) + t393))) = false := bne_eq_false_iff_eq.mpr c76
                   clear c76
                   have H' := jA H
                   clear H
                   try go_wp2
                   have n0_ := jA (jX HO_3.out)
                   have n1_ := jA (jX HO_14.out)
                   have n2_ := jA (jX HO_18.out)
                   have n3_ := jA (jL HB.out)
                   clear HO_3
                   clear HO_14
                   clear HO_18
                   clear HB
                   have HO_3 := n0_
                   have HO_14 := n1_
                   have HO_18 := n2_
                   have HB := n3_
                   clear n0_ n1_ n2_ n3_
                   obtain ⟨Ao78, co78, eo78⟩ := Kd.R_slice HO_18.out
                   (first | subst eo78 | (injection eo78 with f1_ f2_ f3_; have f4_ := f1_.symm; have f5_ := f3_.symm; clear f1_ f2_ f3_; subst f4_; subst f5_))
                   have p414 : 0 ≤ (t392 : Int) := jB za
                   have q414 : t392 < (t396.length : Int) := jB za
                   obtain ⟨ad414, e414, hx414_0, hx414_1, hx414_2⟩ := at_T51 (jF HO_18.out).2.2 t392 p414 q414
                   cases e414
                   replace p414 := eq_true p414
                   replace q414 := eq_true q414
                   have p415 : 0 ≤ (t392 : Int) := jB za
                   have q415 : t392 < (t390.length : Int) := jB za
                   obtain ⟨ad415, e415, hx415_0, hx415_1, hx415_2⟩ := at_T51 (jF HO_14.out).2.2 t392 p415 q415
                   cases e415
                   replace p415 := eq_true p415
                   replace q415 := eq_true q415
                   refine start_ (n := 23) (S := fun w' => w'.cell? (ad414.add ((t392).toNat * 3)) = some (.int .i64 ((rd_T51 t396 t392).f0)) ∧ w'.cell? ⟨(ad414.add ((t392).toNat * 3)).block, (ad414.add ((t392).toNat * 3)).off + 1, none⟩ = some (.int .i64 ((rd_T51 t396 t392).f1)) ∧ w'.cell? ⟨(ad414.add ((t392).toNat * 3)).block, (ad414.add ((t392).toNat * 3)).off + 2, none⟩ = some (.int .i64 ((rd_T51 t396 t392).f2)) ∧ w'.cell? (ad415.add ((t392).toNat * 3)) = some (.int .i64 ((rd_T51 t390 t392).f0)) ∧ w'.cell? ⟨(ad415.add ((t392).toNat * 3)).block, (ad415.add ((t392).toNat * 3)).off + 1, none⟩ = some (.int .i64 ((rd_T51 t390 t392).f1)) ∧ w'.cell? ⟨(ad415.add ((t392).toNat * 3)).block, (ad415.add ((t392).toNat * 3)).off + 2, none⟩ = some (.int .i64 ((rd_T51 t390 t392).f2))) (ds := []) m23_0 zr rfl rfl ⟨hx414_0, hx414_1, hx414_2, hx415_0, hx415_1, hx415_2⟩ (fun hHeld => ?_); refine with_tabW laws_FnDepots.tab24 laws_FnDepots.bits24 (fun HT_ HW_ => ?_)
                   generalize wr.drew = w77 at HO_3 HO_14 HO_18 HB hx414_0 hx414_1 hx414_2 hx415_0 hx415_1 hx415_2 hHeld ⊢
                   refine zp HT_ 0 182 m23_400000 ?_
                   refine zp HT_ 1 183 m23_600000 ?_
                   refine zp HT_ 2 184 m23_700000 ?_
                   refine zp HT_ 3 185 m23_780000 ?_
                   refine zp HT_ 4 186 m23_7c0000 ?_
                   refine one_ (i := 5) (N := some 187) m23_7e0000 rfl rfl (one_of HT_.out zr) (by decide) (fun K hK => ?_)
                   refine goes_ Try.func22 zr rfl #[.slice (some ad414) t396.length co78] (by rfl) rfl rfl zm ?_
                   with_reducible refine (impl_AreDepots.calls k3 _ _ t396 true _ ?side1 ?side2 A71.out).mono ?_
                   (case side1 => repeat (first | exact (jF HO_18.out).2.2 | (with_reducible refine jO ?_ _) | (with_reducible refine jN ?_ _) | (with_reducible refine jS ?_)))
                   (case side2 => exact (jF HO_18.out).2.1)
                   rintro e w79 ⟨rfl, hb⟩
                   have HS0_ := (hb.cell (jC _ _ (hHeld.1))).trans (hHeld.1)
                   have HS1_ := (hb.cell (jC _ _ (hHeld.2.1))).trans (hHeld.2.1)
                   have HS2_ := (hb.cell (jC _ _ (hHeld.2.2.1))).trans (hHeld.2.2.1)
                   have HS3_ := (hb.cell (jC _ _ (hHeld.2.2.2.1))).trans (hHeld.2.2.2.1)
                   have HS4_ := (hb.cell (jC _ _ (hHeld.2.2.2.2.1))).trans (hHeld.2.2.2.2.1)
                   have HS5_ := (hb.cell (jC _ _ (hHeld.2.2.2.2.2))).trans (hHeld.2.2.2.2.2)
                   refine ⟨_, rfl, ?_⟩
                   have n0_ := jA (Kd.R_below (zo HO_3) hb)
                   have n1_ := jA (Kd.R_below (zo HO_14) hb)
                   have n2_ := jA (Kd.R_below (zo HO_18) hb)
                   have n3_ := jA (jT (zb0 HB) hb)
                   clear HO_3
                   clear HO_14
                   clear HO_18
                   clear HB
                   have HO_3 := n0_
                   have HO_14 := n1_
                   have HO_18 := n2_
                   have HB := n3_
                   clear n0_ n1_ n2_ n3_
                   (try clear hb)
                   (try clear hb2)
                   (try clear hk)
                   (try clear hi)
                   refine hK.out _ _ ⟨HS0_, HS1_, HS2_, HS3_, HS4_, HS5_⟩ (fun hHeld => ?_)
                   clear hK K
                   refine norm_ (a' := ?_) ?_ ?_
                   rotate_left
                   ·show Act.put _ (some 187) _ = _
                    simp only [Act.put, jE, jI, jJ, i64_w, i32_w]
                    rfl
                   refine zp HT_ 6 188 m23_7f0000 ?_
                   refine zp HT_ 7 189 m23_7f8000 ?_
                   refine zp HT_ 8 190 m23_7fc000 ?_
                   refine zp HT_ 9 191 m23_7fe000 ?_
                   refine zp HT_ 10 192 m23_7ff000 ?_
                   refine zp HT_ 11 193 m23_7ff800 ?_
                   refine zp HT_ 12 194 m23_7ffc00 ?_
                   refine zp HT_ 14 196 m23_7ffd00 ?_
                   refine zp HT_ 15 197 m23_7ffd80 ?_
                   refine zp HT_ 16 198 m23_7ffdc0 ?_
                   refine zp HT_ 17 199 m23_7ffde0 ?_
                   refine zp HT_ 19 201 m23_7ffde8 ?_
                   refine zt6 HT_ HW_ hHeld 13 195 m23_7fffe8 ?_
                   refine zt6 HT_ HW_ hHeld 18 200 m23_7ffff8 ?_
                   refine zp HT_ 20 202 m23_7ffffc ?_
                   refine zp HT_ 21 203 m23_7ffffe ?_
                   refine zp HT_ 22 204 m23_7fffff ?_
                   refine done_ (done_of HT_.out zr) ?_
                   try go_wp2
                   go_meet
                   case rel => exact ⟨_, H', ⟨by have := HJ13.out; have := HJ59.out; have := HK3.out; first | omega | exact Nat.le_refl _⟩, ⟨by (with_reducible repeat (first | apply ja | apply jZ | apply jX)); exact Kd.R_mono HO_3.out (fun _ hk => trivial)⟩, ⟨zb0 HB⟩⟩
                  ·as_aux_lemma =>
                   rw [if_neg c76] at H
                   have c76b0 : (((rd_T51 t396 t392).f2) == (wrap64 (((rd_T51 t390 t392).f2) + t393))) = false := beq_eq_false_iff_ne.mpr c76
                   have c76b1 : (((rd_T51 t396 t392).f2) != (wrap64 (((rd_T51 t390 t392).f2) + t393))) = true := bne_iff_ne.mpr c76
                   obtain rfl := jM H
                   try go_wp2
                   have n0_ := jA (jX HO_3.out)
                   have n1_ := jA (jX HO_14.out)
                   have n2_ := jA (jX HO_18.out)
                   have n3_ := jA (jL HB.out)
                   clear HO_3
                   clear HO_14
                   clear HO_18
                   clear HB
                   have HO_3 := n0_
                   have HO_14 := n1_
                   have HO_18 := n2_
                   have HB := n3_
                   clear n0_ n1_ n2_ n3_
                   obtain ⟨Ao81, co81, eo81⟩ := Kd.R_slice HO_18.out
                   (first | subst eo81 | (injection eo81 with f1_ f2_ f3_; have f4_ := f1_.symm; have f5_ := f3_.symm; clear f1_ f2_ f3_; subst f4_; subst f5_))
                   have p414 : 0 ≤ (t392 : Int) := jB za
                   have q414 : t392 < (t396.length : Int) := jB za
                   obtain ⟨ad414, e414, hx414_0, hx414_1, hx414_2⟩ := at_T51 (jF HO_18.out).2.2 t392 p414 q414
                   cases e414
                   replace p414 := eq_true p414
                   replace q414 := eq_true q414
                   have p415 : 0 ≤ (t392 : Int) := jB za
                   have q415 : t392 < (t390.length : Int) := jB za
                   obtain ⟨ad415, e415, hx415_0, hx415_1, hx415_2⟩ := at_T51 (jF HO_14.out).2.2 t392 p415 q415
                   cases e415
                   replace p415 := eq_true p415
                   replace q415 := eq_true q415
                   refine start_ (n := 23) (S := fun w' => w'.cell? (ad414.add ((t392).toNat * 3)) = some (.int .i64 ((rd_T51 t396 t392).f0)) ∧ w'.cell? ⟨(ad414.add ((t392).toNat * 3)).block, (ad414.add ((t392).toNat * 3)).off + 1, none⟩ = some (.int .i64 ((rd_T51 t396 t392).f1)) ∧ w'.cell? ⟨(ad414.add ((t392).toNat * 3)).block, (ad414.add ((t392).toNat * 3)).off + 2, none⟩ = some (.int .i64 ((rd_T51 t396 t392).f2)) ∧ w'.cell? (ad415.add ((t392).toNat * 3)) = some (.int .i64 ((rd_T51 t390 t392).f0)) ∧ w'.cell? ⟨(ad415.add ((t392).toNat * 3)).block, (ad415.add ((t392).toNat * 3)).off + 1, none⟩ = some (.int .i64 ((rd_T51 t390 t392).f1)) ∧ w'.cell? ⟨(ad415.add ((t392).toNat * 3)).block, (ad415.add ((t392).toNat * 3)).off + 2, none⟩ = some (.int .i64 ((rd_T51 t390 t392).f2))) (ds := []) m23_0 zr rfl rfl ⟨hx414_0, hx414_1, hx414_2, hx415_0, hx415_1, hx415_2⟩ (fun hHeld => ?_); refine with_tabW laws_FnDepots.tab24 laws_FnDepots.bits24 (fun HT_ HW_ => ?_)
                   generalize wr.drew = w80 at HO_3 HO_14 HO_18 HB hx414_0 hx414_1 hx414_2 hx415_0 hx415_1 hx415_2 hHeld ⊢
                   refine zp HT_ 0 182 m23_400000 ?_
                   refine zp HT_ 1 183 m23_600000 ?_
                   refine zp HT_ 2 184 m23_700000 ?_
                   refine zp HT_ 3 185 m23_780000 ?_
                   refine zp HT_ 4 186 m23_7c0000 ?_
                   refine one_ (i := 5) (N := some 187) m23_7e0000 rfl rfl (one_of HT_.out zr) (by decide) (fun K hK => ?_)
                   refine goes_ Try.func22 zr rfl #[.slice (some ad414) t396.length co81] (by rfl) rfl rfl zm ?_
                   with_reducible refine (impl_AreDepots.calls k3 _ _ t396 true _ ?side1 ?side2 A71.out).mono ?_
                   (case side1 => repeat (first | exact (jF HO_18.out).2.2 | (with_reducible refine jO ?_ _) | (with_reducible refine jN ?_ _) | (with_reducible refine jS ?_)))
                   (case side2 => exact (jF HO_18.out).2.1)
                   rintro e w82 ⟨rfl, hb⟩
                   have HS0_ := (hb.cell (jC _ _ (hHeld.1))).trans (hHeld.1)
                   have HS1_ := (hb.cell (jC _ _ (hHeld.2.1))).trans (hHeld.2.1)
                   have HS2_ := (hb.cell (jC _ _ (hHeld.2.2.1))).trans (hHeld.2.2.1)
                   have HS3_ := (hb.cell (jC _ _ (hHeld.2.2.2.1))).trans (hHeld.2.2.2.1)
                   have HS4_ := (hb.cell (jC _ _ (hHeld.2.2.2.2.1))).trans (hHeld.2.2.2.2.1)
                   have HS5_ := (hb.cell (jC _ _ (hHeld.2.2.2.2.2))).trans (hHeld.2.2.2.2.2)
                   refine ⟨_, rfl, ?_⟩
                   have n0_ := jA (Kd.R_below (zo HO_3) hb)
                   have n1_ := jA (Kd.R_below (zo HO_14) hb)
                   have n2_ := jA (Kd.R_below (zo HO_18) hb)
                   have n3_ := jA (jT (zb0 HB) hb)
                   clear HO_3
                   clear HO_14
                   clear HO_18
                   clear HB
                   have HO_3 := n0_
                   have HO_14 := n1_
                   have HO_18 := n2_
                   have HB := n3_
                   clear n0_ n1_ n2_ n3_
                   (try clear hb)
                   (try clear hb2)
                   (try clear hk)
                   (try clear hi)
                   refine hK.out _ _ ⟨HS0_, HS1_, HS2_, HS3_, HS4_, HS5_⟩ (fun hHeld => ?_)
                   clear hK K
                   refine norm_ (a' := ?_) ?_ ?_
                   rotate_left
                   ·show Act.put _ (some 187) _ = _
                    simp only [Act.put, jE, jI, jJ, i64_w, i32_w]
                    rfl
                   refine zp HT_ 6 188 m23_7f0000 ?_
                   refine zp HT_ 7 189 m23_7f8000 ?_
                   refine zp HT_ 8 190 m23_7fc000 ?_
                   refine zp HT_ 9 191 m23_7fe000 ?_
                   refine zp HT_ 10 192 m23_7ff000 ?_
                   refine zp HT_ 11 193 m23_7ff800 ?_
                   refine zp HT_ 12 194 m23_7ffc00 ?_
                   refine zp HT_ 14 196 m23_7ffd00 ?_
                   refine zp HT_ 15 197 m23_7ffd80 ?_
                   refine zp HT_ 16 198 m23_7ffdc0 ?_
                   refine zp HT_ 17 199 m23_7ffde0 ?_
                   refine zp HT_ 19 201 m23_7ffde8 ?_
                   refine zt6 HT_ HW_ hHeld 13 195 m23_7fffe8 ?_
                   refine zt6 HT_ HW_ hHeld 18 200 m23_7ffff8 ?_
                   refine zp HT_ 20 202 m23_7ffffc ?_
                   refine zp HT_ 21 203 m23_7ffffe ?_
                   refine zp HT_ 22 204 m23_7fffff ?_
                   refine done_ (done_of HT_.out zr) ?_
                   try go_wp2
                   go_ret
                   exact ⟨by first | rfl | (simp [errW_none, errW_some] <;> rfl) | (simp [*, errW_none, errW_some] <;> rfl), zb0 HB⟩
                 ·rw [if_neg c75] at H
                  exact absurd H (by simp)
                ·rw [if_neg c74] at H
                 exact absurd H (by simp)
               ·rw [if_neg c73] at H
                exact absurd H (by simp)
              ·as_aux_lemma =>
               replace c72 := Bool.eq_false_iff.mpr c72
               subst c72
               have H1 : (some false) = some r := by rw [if_neg (show ¬ (false = true) by decide)] at H; exact H
               clear H
               have H := H1
               clear H1
               obtain rfl := jM H
               try go_wp2
               have n0_ := jA (jX HO_3.out)
               have n1_ := jA (jX HO_14.out)
               have n2_ := jA (jX HO_18.out)
               have n3_ := jA (jL HB.out)
               clear HO_3
               clear HO_14
               clear HO_18
               clear HB
               have HO_3 := n0_
               have HO_14 := n1_
               have HO_18 := n2_
               have HB := n3_
               clear n0_ n1_ n2_ n3_
               obtain ⟨Ao84, co84, eo84⟩ := Kd.R_slice HO_18.out
               (first | subst eo84 | (injection eo84 with f1_ f2_ f3_; have f4_ := f1_.symm; have f5_ := f3_.symm; clear f1_ f2_ f3_; subst f4_; subst f5_))
               refine start_ (n := 23) (S := fun w' => True) (ds := []) m23_0 zr rfl rfl trivial (fun hHeld => ?_); refine with_tabW laws_FnDepots.tab24 laws_FnDepots.bits24 (fun HT_ HW_ => ?_)
               generalize wr.drew = w83 at HO_3 HO_14 HO_18 HB hHeld ⊢
               refine zp HT_ 0 182 m23_400000 ?_
               refine zp HT_ 1 183 m23_600000 ?_
               refine zp HT_ 2 184 m23_700000 ?_
               refine zp HT_ 3 185 m23_780000 ?_
               refine zp HT_ 4 186 m23_7c0000 ?_
               refine one_ (i := 5) (N := some 187) m23_7e0000 rfl rfl (one_of HT_.out zr) (by decide) (fun K hK => ?_)
               refine goes_ Try.func22 zr rfl #[.slice Ao84 t396.length co84] (by rfl) rfl rfl zm ?_
               with_reducible refine (impl_AreDepots.calls k3 _ _ t396 false _ ?side1 ?side2 A71.out).mono ?_
               (case side1 => repeat (first | exact (jF HO_18.out).2.2 | (with_reducible refine jO ?_ _) | (with_reducible refine jN ?_ _) | (with_reducible refine jS ?_)))
               (case side2 => exact (jF HO_18.out).2.1)
               rintro e w85 ⟨rfl, hb⟩
               refine ⟨_, rfl, ?_⟩
               have n0_ := jA (Kd.R_below (zo HO_3) hb)
               have n1_ := jA (Kd.R_below (zo HO_14) hb)
               have n2_ := jA (Kd.R_below (zo HO_18) hb)
               have n3_ := jA (jT (zb0 HB) hb)
               clear HO_3
               clear HO_14
               clear HO_18
               clear HB
               have HO_3 := n0_
               have HO_14 := n1_
               have HO_18 := n2_
               have HB := n3_
               clear n0_ n1_ n2_ n3_
               (try clear hb)
               (try clear hb2)
               (try clear hk)
               (try clear hi)
               refine hK.out _ _ trivial (fun hHeld => ?_)
               clear hK K
               refine norm_ (a' := ?_) ?_ ?_
               rotate_left
               ·show Act.put _ (some 187) _ = _
                simp only [Act.put, jE, jI, jJ, i64_w, i32_w]
                rfl
               refine zp HT_ 6 188 m23_7f0000 ?_
               refine zp HT_ 7 189 m23_7f8000 ?_
               refine zp HT_ 8 190 m23_7fc000 ?_
               refine zq HT_ 9 191 m23_7fe000 ?_
               refine zq HT_ 10 192 m23_7ff000 ?_
               refine zq HT_ 11 193 m23_7ff800 ?_
               refine zq HT_ 12 194 m23_7ffc00 ?_
               refine zq HT_ 13 195 m23_7ffe00 ?_
               refine zq HT_ 14 196 m23_7fff00 ?_
               refine zq HT_ 15 197 m23_7fff80 ?_
               refine zq HT_ 16 198 m23_7fffc0 ?_
               refine zq HT_ 17 199 m23_7fffe0 ?_
               refine zq HT_ 18 200 m23_7ffff0 ?_
               refine zq HT_ 19 201 m23_7ffff8 ?_
               refine zq HT_ 20 202 m23_7ffffc ?_
               refine zq HT_ 21 203 m23_7ffffe ?_
               refine zp HT_ 22 204 m23_7fffff ?_
               refine done_ (done_of HT_.out zr) ?_
               try go_wp2
               go_ret
               exact ⟨by first | rfl | (simp [errW_none, errW_some] <;> rfl) | (simp [*, errW_none, errW_some] <;> rfl), zb0 HB⟩
             ·as_aux_lemma =>
              rw [if_neg c70] at H
              have c70b0 : (x26_3 == x27_3) = false := beq_eq_false_iff_ne.mpr c70
              have c70b1 : (x26_3 != x27_3) = true := bne_iff_ne.mpr c70
              obtain rfl := jM H
              try go_wp2
              have n0_ := jA (jX HO_3.out)
              have n1_ := jA (jX HO_14.out)
              have n2_ := jA (jX HO_18.out)
              have n3_ := jA (jL HB.out)
              clear HO_3
              clear HO_14
              clear HO_18
              clear HB
              have HO_3 := n0_
              have HO_14 := n1_
              have HO_18 := n2_
              have HB := n3_
              clear n0_ n1_ n2_ n3_
              refine start_ (n := 23) (S := fun w' => True) (ds := []) m23_0 zr rfl rfl trivial (fun hHeld => ?_); refine with_tabW laws_FnDepots.tab24 laws_FnDepots.bits24 (fun HT_ HW_ => ?_)
              generalize wr.drew = w86 at HO_3 HO_14 HO_18 HB hHeld ⊢
              refine zp HT_ 0 182 m23_400000 ?_
              refine zp HT_ 1 183 m23_600000 ?_
              refine zp HT_ 2 184 m23_700000 ?_
              refine zp HT_ 3 185 m23_780000 ?_
              refine zq HT_ 4 186 m23_7c0000 ?_
              refine zq HT_ 5 187 m23_7e0000 ?_
              refine zq HT_ 6 188 m23_7f0000 ?_
              refine zp HT_ 7 189 m23_7f8000 ?_
              refine zp HT_ 8 190 m23_7fc000 ?_
              refine zq HT_ 9 191 m23_7fe000 ?_
              refine zq HT_ 10 192 m23_7ff000 ?_
              refine zq HT_ 11 193 m23_7ff800 ?_
              refine zq HT_ 12 194 m23_7ffc00 ?_
              refine zq HT_ 13 195 m23_7ffe00 ?_
              refine zq HT_ 14 196 m23_7fff00 ?_
              refine zq HT_ 15 197 m23_7fff80 ?_
              refine zq HT_ 16 198 m23_7fffc0 ?_
              refine zq HT_ 17 199 m23_7fffe0 ?_
              refine zq HT_ 18 200 m23_7ffff0 ?_
              refine zq HT_ 19 201 m23_7ffff8 ?_
              refine zq HT_ 20 202 m23_7ffffc ?_
              refine zq HT_ 21 203 m23_7ffffe ?_
              refine zp HT_ 22 204 m23_7fffff ?_
              refine done_ (done_of HT_.out zr) ?_
              try go_wp2
              go_ret
              exact ⟨by first | rfl | (simp [errW_none, errW_some] <;> rfl) | (simp [*, errW_none, errW_some] <;> rfl), zb0 HB⟩
         ·rw [if_neg c65] at H
          have c65b0 : (t397 == 0) = false := beq_eq_false_iff_ne.mpr c65
          have c65b1 : (t397 != 0) = true := bne_iff_ne.mpr c65
          (first | rw [c65b0] | (simp only [i64_w, i32_w]; rw [c65b0]) | skip)
          have H' := jA H
          clear H
          go_wp2
          go_meet
          case rel => exact ⟨_, H', ⟨by have := HJ13.out; have := HJ59.out; first | omega | exact Nat.le_refl _⟩, ⟨by (with_reducible repeat (first | apply ja | apply jZ | apply jX)); exact Kd.R_mono HO_3.out (fun _ hk => trivial)⟩, ⟨zb0 HB⟩⟩
        case rest =>
         clear HC64
         try clear c2
         try clear p2
         try clear p4
         try clear q4
         try clear hx4
         try clear c6
         try clear p6
         try clear c7
         try clear c22
         try clear p41
         try clear q41
         try clear hx41
         try clear p64
         try clear c65
         try clear c65b0
         try clear c65b1
         try clear c70
         try clear c70b0
         try clear c70b1
         try clear c72
         try clear c73
         try clear c74
         try clear c75
         try clear c76
         try clear c76b0
         try clear c76b1
         try clear hx414_0
         try clear hx414_1
         try clear hx414_2
         try clear hx415_0
         try clear hx415_1
         try clear hx415_2
         try clear p414
         try clear p415
         try clear q414
         try clear q415
         obtain ⟨kq, HA, HJ63, HO_3, HB⟩ := hcut
         cases kq with
         | zero => exact absurd HA.out (by simp [laws_FnDepots.j3])
         | succ kj63 =>
          have H := HA.out
          clear HA
          simp only [laws_FnDepots.j3] at H
          by_cases c87 : t379 = 0
          ·as_aux_lemma =>
           rw [if_pos c87] at H
           have c87b0 : (t379 == 0) = true := beq_iff_eq.mpr c87
           have c87b1 : (t379 != 0) = false := bne_eq_false_iff_eq.mpr c87
           clear c87
           obtain ⟨y416, hy416⟩ : ∃ y_ : List (S51), y_ = (([] : List (S51))) := ⟨_, rfl⟩
           replace H : (if y416.length + t373.length < 5864062014805 then ((some (y416 ++ t373 : List (S51))).bind fun y419 => (if 0 ≤ t375 then (if t375 < (y419.length : Int) then ((some (y419.set (t375 : Int).toNat (⟨(rd_T51 y419 t375).f0, (rd_T51 y419 t375).f1, t378⟩ : S51) : List (S51))).bind fun y422 => ((impl_TooClose.f kj63 y422 t374).bind fun bt423 => ((spec_TooClose.f kj63 y422 t374).bind fun bt427 => (if bt423.2 = bt427.2 then ((laws_likeRows.f kj63 bt423.1 bt427.1).bind fun t431 => (laws_FnDepots.j4 kj63 t375 bt423.1 bt423.2 (!t431))) else (laws_FnDepots.j4 kj63 t375 bt423.1 bt423.2 true))))) else (none)) else (none))) else (none)) = some r := by first | (rw [hy416]; with_reducible exact H) | (have H2_ := (Option.bind_some _ _).symm.trans H; rw [hy416]; with_reducible exact H2_) | (have H2_ := (Option.bind_some _ _).symm.trans H; with_reducible exact H2_) | with_reducible exact H | (rw [hy416]; exact H) | exact H
           have Ny416 := jA hy416
           clear hy416
           by_cases c88 : y416.length + t373.length < 5864062014805
           ·as_aux_lemma =>
            rw [if_pos c88] at H
            have LMc88 := jA c88
            clear c88
            obtain ⟨y419, hy419⟩ : ∃ y_ : List (S51), y_ = (y416 ++ t373) := ⟨_, rfl⟩
            replace H : (if 0 ≤ t375 then (if t375 < (y419.length : Int) then ((some (y419.set (t375 : Int).toNat (⟨(rd_T51 y419 t375).f0, (rd_T51 y419 t375).f1, t378⟩ : S51) : List (S51))).bind fun y422 => ((impl_TooClose.f kj63 y422 t374).bind fun bt423 => ((spec_TooClose.f kj63 y422 t374).bind fun bt427 => (if bt423.2 = bt427.2 then ((laws_likeRows.f kj63 bt423.1 bt427.1).bind fun t431 => (laws_FnDepots.j4 kj63 t375 bt423.1 bt423.2 (!t431))) else (laws_FnDepots.j4 kj63 t375 bt423.1 bt423.2 true))))) else (none)) else (none)) = some r := by first | (rw [hy419]; with_reducible exact H) | (have H2_ := (Option.bind_some _ _).symm.trans H; rw [hy419]; with_reducible exact H2_) | (have H2_ := (Option.bind_some _ _).symm.trans H; with_reducible exact H2_) | with_reducible exact H | (rw [hy419]; exact H) | exact H
            have Ny419 := jA hy419
            clear hy419
            by_cases c89 : 0 ≤ t375
            ·as_aux_lemma =>
             rw [if_pos c89] at H
             have c89b0 : decide (0 ≤ t375) = true := jG c89
             clear c89
             by_cases c90 : t375 < (y419.length : Int)
             ·as_aux_lemma =>
              rw [if_pos c90] at H
              have c90b0 : decide (t375 < (y419.length : Int)) = true := jG c90
              clear c90
              obtain ⟨y422, hy422⟩ : ∃ y_ : List (S51), y_ = (y419.set (t375 : Int).toNat (⟨(rd_T51 y419 t375).f0, (rd_T51 y419 t375).f1, t378⟩ : S51)) := ⟨_, rfl⟩
              replace H : ((impl_TooClose.f kj63 y422 t374).bind fun bt423 => ((spec_TooClose.f kj63 y422 t374).bind fun bt427 => (if bt423.2 = bt427.2 then ((laws_likeRows.f kj63 bt423.1 bt427.1).bind fun t431 => (laws_FnDepots.j4 kj63 t375 bt423.1 bt423.2 (!t431))) else (laws_FnDepots.j4 kj63 t375 bt423.1 bt423.2 true)))) = some r := by first | (rw [hy422]; with_reducible exact H) | (have H2_ := (Option.bind_some _ _).symm.trans H; rw [hy422]; with_reducible exact H2_) | (have H2_ := (Option.bind_some _ _).symm.trans H; with_reducible exact H2_) | with_reducible exact H | (rw [hy422]; exact H) | exact H
              have Ny422 := jA hy422
              clear hy422
              replace H := jD.mp H
              obtain ⟨⟨t423, t424⟩, A920, H⟩ := H
              replace H : ((spec_TooClose.f kj63 y422 t374).bind fun bt427 => (if t424 = bt427.2 then ((laws_likeRows.f kj63 t423 bt427.1).bind fun t431 => (laws_FnDepots.j4 kj63 t375 t423 t424 (!t431))) else (laws_FnDepots.j4 kj63 t375 t423 t424 true))) = some r := H
              have A92 := jA A920
              clear A920
              replace H := jD.mp H
              obtain ⟨⟨t427, t428⟩, A930, H⟩ := H
              replace H : (if t424 = t428 then ((laws_likeRows.f kj63 t423 t427).bind fun t431 => (laws_FnDepots.j4 kj63 t375 t423 t424 (!t431))) else (laws_FnDepots.j4 kj63 t375 t423 t424 true)) = some r := H
              have A93 := jA A930
              clear A930
              have HC94 := jA H
              clear H
              go_upto_region 32 with (first | ((with_reducible refine gate_dst (N := 207) rfl ?_); (try (refine gate_guard (by rfl) ?_; dsimp only)); refine Kd.R_lit k51 _ 51 ?hg (N := 207) ?hd (xs := ([] : List (S51))) (inner := []) (ok := fun _ => True) (okp := fun _ => True) ?hr ?hp (fun _ hk => hk) trivial (Below.refl _ _) (Nat.le_refl _) (by simp) ?_; (case hd => rfl); (case hg => rfl); (case hr => first | (go_simp; done) | (go_simp; rfl)); (case hp => exact (Reps.none _ _)); intro v417 w95 ho96 hb hg_ hnew_; clear hg_ hnew_; (first | rw [← Ny416.out] at ho96 | (simp only [Int.reduceToNat] at ho96; rw [← Ny416.out] at ho96)); have n0_ := jA (Kd.R_elder' (zo HO_3) (Kd.R_base ho96) hb); have n1_ := jA (Kd.R_lower (Kd.R_new' ho96 (Kd.R_lt (zo HO_3))) (jW (zb0 HB))); have n2_ := jA (jT (zb0 HB) hb); clear HO_3; clear HB; have HO_3 := n0_; have HO418 := n1_; have HB := n2_; clear n0_ n1_ n2_; clear hb ho96) | ((with_reducible refine gate_builtin (b := .append) (xs := #[.tmp 207, .tmp 208]) rfl ?_); (try (refine gate_guard (by rfl) ?_; dsimp only)); at_builtin; refine Kd.R_append_rows k51 (w0 := w) w.heap.size rfl (.tmp 207) (.tmp 208) 28 51 (.agg #[(.int .i64 0), (.int .i64 0), (.int .i64 0)]) 24 rfl Try.underlying28 info51 rfl (by decide) (by omega) v417 y416 t373 _ _ _ (fun k_ => some k_ ≠ (.slice Ao16 t373.length co16 : Value).ownBlock) (fun _ => False) rfl rfl ?aO ?aR (fun _ _ h => h) (fun _ h => h.elim) ?aF ?aB ?aS ?aL ?_; (case aR => repeat (first | exact (jF HO_3.out).2.2 | (with_reducible refine jO ?_ _) | (with_reducible refine jN ?_ _) | (with_reducible refine jS ?_))); (case aB => exact (zb0 HB)); (case aF => exact (fun k_ hk => Kd.fresh' (Kd.R_lt (zo HO_3)) k_ hk)); (case aO => exact (by (with_reducible repeat (first | apply ja | apply jZ | apply jX)); exact Kd.R_mono HO418.out (fun _ hk => hk.2))); (case aS => exact (jW (zb0 HB))); (case aL => have := LMc88.out; omega); intro v420 w97 ho hb hg hat; rw [← Ny419.out] at ho; have n0_ := jA (Kd.R_after (ok := (fun _ => True)) (zo HO_3) hg hat); have n1_ := jA (hb); have n2_ := jA (ho); clear HO_3; clear HB; clear HO418; have HO_3 := n0_; have HB := n1_; have HO421 := n2_; clear n0_ n1_ n2_; clear ho hb hg hat; have p91 : 0 ≤ (t375 : Int) := jB za; have q91 : (t375 : Int) < ((y419.length : Int) : Int) := jB za; obtain ⟨go91, co91, eo91, gb91, gl91, cl91, HG91⟩ := Kd.R_form HO421.out (by omega); (first | cases eo91 | (injection eo91 with ea_ en_ ec_; (first | subst ea_ | (injection ea_ with ea_; subst ea_)); subst ec_; clear en_)); have GB91 := jA gb91; have GG91 := jA HG91; clear gb91 gl91 HG91; obtain ⟨ce91, hcl91, hM91, hcc91, hfr91⟩ := Kd.R_elem HO421.out z51 (t375 : Int) p91 q91; obtain rfl := k51_openM hM91; have hx91_0 : w97.cell? ⟨go91, (t375 : Int).toNat * 3, none⟩ = some (.int .i64 ((rd_T51 y419 t375).f0)) := hcc91 0 _ rfl; have hx91_1 : w97.cell? ⟨go91, (t375 : Int).toNat * 3 + 1, none⟩ = some (.int .i64 ((rd_T51 y419 t375).f1)) := hcc91 1 _ rfl; have hx91_2 : w97.cell? ⟨go91, (t375 : Int).toNat * 3 + 2, none⟩ = some (.int .i64 ((rd_T51 y419 t375).f2)) := hcc91 2 _ rfl; have hf91_0 : w97.frozen? ⟨go91, (t375 : Int).toNat * 3, none⟩ = false := hfr91 0; have hf91_1 : w97.frozen? ⟨go91, (t375 : Int).toNat * 3 + 1, none⟩ = false := hfr91 1; have hf91_2 : w97.frozen? ⟨go91, (t375 : Int).toNat * 3 + 2, none⟩ = false := hfr91 2; clear hcl91 hcc91 hfr91 hM91; replace p91 := eq_true p91; replace q91 := eq_true q91; have HX98 := jA (show Kd.R k51 51 w97 w.heap.size (fun k_ => some k_ ≠ (.slice Ao16 t373.length co16 : Value).ownBlock) (.slice (some ⟨go91, 0, none⟩) y419.length co91) y419 from (zo HO421)); obtain ⟨ce98, hcl98, hM98, hcc98, hfr98⟩ := Kd.R_elem HX98.out z51 (t375 : Int) (jB za) (by have h_ : (t375 : Int) < ((y419.length : Int) : Int) := jB za; first | exact h_ | (have e_ := (jF HO421.out).1; omega) | simpa using h_); obtain rfl := k51_openM hM98; have HP98 := Kd.R_seg HX98.out (t375 : Int) (jB za) (by have h_ : (t375 : Int) < ((y419.length : Int) : Int) := jB za; first | exact h_ | (have e_ := (jF HO421.out).1; omega) | simpa using h_) (seg := [.int .i64 t378]) (j := 2) hcl98 hcc98 (show 3 ≤ 3 from by decide) (x' := (⟨(rd_T51 y419 t375).f0, (rd_T51 y419 t375).f1, t378⟩ : S51)) (k51_mkM _ _ _ (⟨(rd_T51 y419 t375).f0, (rd_T51 y419 t375).f1, t378⟩ : S51) ) (fun _ hk => hk); have hx98_2 := hcc98 2 _ rfl; (try simp only [show (k51).sz = 3 from rfl, Nat.mul_one, Nat.add_zero] at hx98_2); have hf98_2 := hfr98 2; (try simp only [show (k51).sz = 3 from rfl, Nat.mul_one, Nat.add_zero] at hf98_2); clear hcl98 hcc98 hfr98 hM98) | ((with_reducible refine gate_store (t := 2) (p := 214) rfl ?_); refine store_event (t := 2) (p := 214) (v := ?vo_w99) (w1 := (w97.setCell ⟨go91, (t375 : Int).toNat * 3 + 2, none⟩ (.int .i64 t378))) ?hg ?ho ?hn ?hr ?_; (case ho => rfl); (case hg => rfl); (case hn => rfl); (case hr => first | (go_simp; done) | (go_simp; rfl)); intro w99 hw; have hg : w97.grownBy w99 (some go91) := (by rw [hw]; exact HP98.2); have hp_ : Kd.R k51 51 w99 w.heap.size (fun k_ => some k_ ≠ (.slice Ao16 t373.length co16 : Value).ownBlock) (.slice (some ⟨go91, 0, none⟩) y419.length co91) y422 := (by rw [hw, Ny422.out]; exact HP98.1); clear HP98; have n0_ := jA (Kd.R_after (v := (.slice (some ⟨go91, 0, none⟩) y419.length co91)) (v1 := (.slice (some ⟨go91, 0, none⟩) y419.length co91)) (ok := (fun _ => True)) (zo HO_3) hg (.inl rfl)); have n1_ := jA (hp_); have n2_ := jA ((by rw [hw]; exact jQ (HB.out) GB91.out : Below w.heap.size w w99)); clear HO_3; clear HO421; clear HB; have HO_3 := n0_; have HO421 := n1_; have HB := n2_; clear n0_ n1_ n2_; clear hg hw hp_) | ((with_reducible refine jH (f := 45) rfl ?_); refine goesL_ (some 218) rfl rfl Try.func45 zr rfl #[.slice (some ⟨go91, 0, none⟩) y422.length co91, .int .i64 t374] rfl (by (try simp only [List.map_toArray, List.map_cons, List.map_nil]); first | done | (rw [show y422.length = y419.length from (jF HO421.out).1.symm] <;> rfl) | rfl | (simp only [List.length_drop, List.length_take]; rfl)) ?_; (with_reducible refine (impl_TooClose.calls kj63 _ _ y422 t374 t423 t424 _ ?side1 ?side2 A92.out).mono ?_); (case side1 => repeat (first | exact (jF HO421.out).2.2 | (with_reducible refine jO ?_ _) | (with_reducible refine jN ?_ _) | (with_reducible refine jS ?_))); (case side2 => rw [show y422.length = y419.length from (jF HO421.out).1.symm]; exact (jF HO421.out).2.1); rintro e w100 ⟨v425, rfl, ho0, hb⟩; refine ⟨_, rfl, ?_⟩; have n0_ := jA (Kd.R_below (zo HO_3) hb); have n1_ := jA (Kd.R_below (zo HO421) hb); have n2_ := jA (Kd.S_lower ho0 (jW (zb0 HB))); have n3_ := jA (jT (zb0 HB) hb); clear HO_3; clear HO421; clear HB; have HO_3 := n0_; have HO421 := n1_; have HO426 := n2_; have HB := n3_; clear n0_ n1_ n2_ n3_; (try clear hb); (try clear hb2); (try clear hk); (try clear hi); (try clear ho0)) | ((with_reducible refine jH (f := 44) rfl ?_); refine goesL_ (some 224) rfl rfl Try.func44 zr rfl #[.slice (some ⟨go91, 0, none⟩) y422.length co91, .int .i64 t374] rfl (by (try simp only [List.map_toArray, List.map_cons, List.map_nil]); first | done | (rw [show y422.length = y419.length from (jF HO421.out).1.symm] <;> rfl) | rfl | (simp only [List.length_drop, List.length_take]; rfl)) ?_; (with_reducible refine (spec_TooClose.calls kj63 _ _ y422 t374 t427 t428 _ ?side1 ?side2 A93.out).mono ?_); (case side1 => repeat (first | exact (jF HO421.out).2.2 | (with_reducible refine jO ?_ _) | (with_reducible refine jN ?_ _) | (with_reducible refine jS ?_))); (case side2 => rw [show y422.length = y419.length from (jF HO421.out).1.symm]; exact (jF HO421.out).2.1); rintro e w101 ⟨v429, rfl, ho0, hb⟩; refine ⟨_, rfl, ?_⟩; have n0_ := jA (Kd.R_below (zo HO_3) hb); have n1_ := jA (Kd.R_below (zo HO421) hb); have n2_ := jA (Kd.S_elder' (by (with_reducible repeat (first | apply Kd.S_alloc | apply Kd.S_drewN | apply Kd.S_drew)); exact HO426.out) (Kd.S_base ho0) hb); have n3_ := jA (Kd.S_lower (Kd.S_new' ho0 (Kd.S_lt (by (with_reducible repeat (first | apply Kd.S_alloc | apply Kd.S_drewN | apply Kd.S_drew)); exact HO426.out))) (jW (zb0 HB))); have n4_ := jA (jT (zb0 HB) hb); clear HO_3; clear HO421; clear HO426; clear HB; have HO_3 := n0_; have HO421 := n1_; have HO426 := n2_; have HO430 := n3_; have HB := n4_; clear n0_ n1_ n2_ n3_ n4_; (try clear hb); (try clear hb2); (try clear hk); (try clear hi); (try clear ho0)))
              (try simp only [Act.put, jE, jI, jJ])
              go_cut [235] (fun v235 wc => ∃ (kq : Nat) (x235_93 : Bool), v235 = .bool x235_93 ∧ Aside0 (laws_FnDepots.j4 kq t375 t423 t424 x235_93 = some r) ∧ Aside0 (kq ≤ kj63) ∧ Aside0 (Kd.S (Kd.slice 2 (Kd.int .i64)) 59 wc w.heap.size (fun _ => True) v425 t423) ∧ Aside0 (Below w.heap.size w wc))
              case first =>
               have H := HC94.out
               clear HC94
               by_cases c102 : t424 = t428
               ·rw [if_pos c102] at H
                have c102b0 : (t424 == t428) = true := beq_iff_eq.mpr c102
                have c102b1 : (t424 != t428) = false := bne_eq_false_iff_eq.mpr c102
                clear c102
                (first | rw [c102b0] | (simp only [i64_w, i32_w]; rw [c102b0]) | skip)
                replace H := jD.mp H
                obtain ⟨t431, A1030, H⟩ := H
                replace H : (laws_FnDepots.j4 kj63 t375 t423 t424 (!t431)) = some r := H
                have A103 := jA A1030
                clear A1030
                have H' := jA H
                clear H
                obtain ⟨Ao104, co104, eo104⟩ := Kd.S_slice HO426.out
                subst eo104
                obtain ⟨Ao105, co105, eo105⟩ := Kd.S_slice HO430.out
                subst eo105
                go_wp2_with (first | (go_at_call 51; (with_reducible refine (laws_likeRows.calls kj63 _ _ t423 _ _ t427 t431 _ ?side1 ?side2 ?side3 ?side4 A103.out).mono ?_); (case side1 => repeat (first | exact (Kd.S_reads' HO426.out).2.2 | (with_reducible refine jO ?_ _) | (with_reducible refine jN ?_ _) | (with_reducible refine jS ?_))); (case side2 => exact (Kd.S_reads' HO426.out).2.1); (case side3 => repeat (first | exact (Kd.S_reads' HO430.out).2.2 | (with_reducible refine jO ?_ _) | (with_reducible refine jN ?_ _) | (with_reducible refine jS ?_))); (case side4 => exact (Kd.S_reads' HO430.out).2.1); rintro e w' ⟨rfl, ⟨nd, rfl⟩⟩))
                go_meet
                case rel => exact ⟨_, (!t431), zz, H', ⟨by have := HJ13.out; have := HJ59.out; have := HJ63.out; first | omega | exact Nat.le_refl _⟩, ⟨by (with_reducible repeat (first | apply Kd.S_alloc | apply Kd.S_drewN | apply Kd.S_drew)); exact Kd.S_mono HO426.out (fun _ hk => trivial)⟩, ⟨zb0 HB⟩⟩
               ·rw [if_neg c102] at H
                have c102b0 : (t424 == t428) = false := beq_eq_false_iff_ne.mpr c102
                have c102b1 : (t424 != t428) = true := bne_iff_ne.mpr c102
                (first | rw [c102b0] | (simp only [i64_w, i32_w]; rw [c102b0]) | skip)
                have H' := jA H
                clear H
                go_wp2
                go_meet
                case rel => exact ⟨_, (true), zz, H', ⟨by have := HJ13.out; have := HJ59.out; have := HJ63.out; first | omega | exact Nat.le_refl _⟩, ⟨by (with_reducible repeat (first | apply Kd.S_alloc | apply Kd.S_drewN | apply Kd.S_drew)); exact Kd.S_mono HO426.out (fun _ hk => trivial)⟩, ⟨zb0 HB⟩⟩
              case rest =>
               clear HC94
               try clear c1
               try clear c2
               try clear p2
               try clear c4
               try clear p4
               try clear q4
               try clear hx4
               try clear c6
               try clear p6
               try clear c7
               try clear c8
               try clear c9
               try clear p9
               try clear q9
               try clear hx9
               try clear hf9
               try clear c10
               try clear c22
               try clear p41
               try clear q41
               try clear hx41
               try clear c44
               try clear c45
               try clear p64
               try clear c65
               try clear c65b0
               try clear c65b1
               try clear c70
               try clear c70b0
               try clear c70b1
               try clear c72
               try clear c73
               try clear c74
               try clear c75
               try clear c76
               try clear c76b0
               try clear c76b1
               try clear c87
               try clear c87b0
               try clear c87b1
               try clear c88
               try clear c89
               try clear c89b0
               try clear c90
               try clear c90b0
               try clear c91
               try clear p91
               try clear q91
               try clear hx91
               try clear hf91
               try clear c98
               try clear hx98
               try clear hf98
               try clear c102
               try clear c102b0
               try clear c102b1
               try clear hx414_0
               try clear hx414_1
               try clear hx414_2
               try clear hx415_0
               try clear hx415_1
               try clear hx415_2
               try clear hx91_0
               try clear hx91_1
               try clear hx91_2
               try clear hx98_2
               try clear p2
               try clear p4
               try clear p41
               try clear p414
               try clear p415
               try clear p6
               try clear p64
               try clear p91
               try clear q4
               try clear q41
               try clear q414
               try clear q415
               try clear q91
               obtain ⟨kq, x235_93, rfl, HA, HJ93, HO_30, HB⟩ := hcut
               cases kq with
               | zero => exact absurd HA.out (by simp [laws_FnDepots.j4])
               | succ kj93 =>
                have H := HA.out
                clear HA
                simp only [laws_FnDepots.j4] at H
                by_cases c106 : x235_93 = true
                ·subst c106
                 have H1 : (some false) = some r := by rw [if_pos rfl] at H; exact H
                 clear H
                 have H := H1
                 clear H1
                 obtain rfl := jM H
                 go_wp2
                 go_ret
                 exact ⟨by first | rfl | (simp [errW_none, errW_some] <;> rfl) | (simp [*, errW_none, errW_some] <;> rfl), zb0 HB⟩
                ·as_aux_lemma =>
                 replace c106 := Bool.eq_false_iff.mpr c106
                 subst c106
                 have H1 : (laws_FnDepots.l1 kj93 t375 t423 t424 0) = some r := by rw [if_neg (show ¬ (false = true) by decide)] at H; exact H
                 clear H
                 have H := H1
                 clear H1
                 have H' := jA H
                 clear H
                 go_wp2
                 go_loopg [34] kj93 (fun kq v34 w' => ∃ (x34_5 : Int), v34 = .int .i64 x34_5 ∧ Aside0 (laws_FnDepots.l1 kq t375 t423 t424 x34_5 = some r) ∧ Aside0 (kq ≤ kj93) ∧ Aside0 (Kd.S (Kd.slice 2 (Kd.int .i64)) 59 w' w.heap.size (fun _ => True) v425 t423) ∧ Aside0 (Below w.heap.size w w'))
                 case atStart => exact ⟨(0), zz, H', ⟨Nat.le_refl _⟩, ⟨by (with_reducible repeat (first | apply Kd.S_alloc | apply Kd.S_drewN | apply Kd.S_drew)); exact HO_30.out⟩, ⟨zb0 HB⟩⟩
                 case round =>
                  clear H'
                  try clear c1
                  try clear c2
                  try clear p2
                  try clear c4
                  try clear p4
                  try clear q4
                  try clear hx4
                  try clear c6
                  try clear p6
                  try clear c7
                  try clear c8
                  try clear c9
                  try clear p9
                  try clear q9
                  try clear hx9
                  try clear hf9
                  try clear c10
                  try clear c22
                  try clear p41
                  try clear q41
                  try clear hx41
                  try clear c44
                  try clear c45
                  try clear p64
                  try clear c65
                  try clear c65b0
                  try clear c65b1
                  try clear c70
                  try clear c70b0
                  try clear c70b1
                  try clear c72
                  try clear c73
                  try clear c74
                  try clear c75
                  try clear c76
                  try clear c76b0
                  try clear c76b1
                  try clear c87
                  try clear c87b0
                  try clear c87b1
                  try clear c88
                  try clear c89
                  try clear c89b0
                  try clear c90
                  try clear c90b0
                  try clear c91
                  try clear p91
                  try clear q91
                  try clear hx91
                  try clear hf91
                  try clear c98
                  try clear hx98
                  try clear hf98
                  try clear c102
                  try clear c102b0
                  try clear c102b1
                  try clear c106
                  try clear hx414_0
                  try clear hx414_1
                  try clear hx414_2
                  try clear hx415_0
                  try clear hx415_1
                  try clear hx415_2
                  try clear hx91_0
                  try clear hx91_1
                  try clear hx91_2
                  try clear hx98_2
                  try clear p2
                  try clear p4
                  try clear p41
                  try clear p414
                  try clear p415
                  try clear p6
                  try clear p64
                  try clear p9
                  try clear p91
                  try clear q4
                  try clear q41
                  try clear q414
                  try clear q415
                  try clear q9
                  try clear q91
                  obtain ⟨x34_5, rfl, HA, HK5, HO_30, HB⟩ := hrel
                  cases gk with
                  | zero => exact absurd HA.out (by simp [laws_FnDepots.l1])
                  | succ k5 =>
                   have H := HA.out
                   clear HA
                   simp only [laws_FnDepots.l1] at H
                   by_cases c107 : x34_5 < (t423.length : Int)
                   ·as_aux_lemma =>
                    rw [if_pos c107] at H
                    have c107b0 : decide (x34_5 < (t423.length : Int)) = true := jG c107
                    clear c107
                    by_cases c108 : 0 ≤ x34_5
                    ·as_aux_lemma =>
                     rw [if_pos c108] at H
                     have c108b0 : decide (0 ≤ x34_5) = true := jG c108
                     clear c108
                     by_cases c109 : 0 < ((rd_L3 t423 x34_5).length : Int)
                     ·as_aux_lemma =>
                      rw [if_pos c109] at H
                      have c109b0 : decide (0 < ((rd_L3 t423 x34_5).length : Int)) = true := jG c109
                      have c109b1 : decide (0 < (rd_L3 t423 x34_5).length) = true := jG (by omega)
                      clear c109
                      by_cases c110 : (rd (rd_L3 t423 x34_5) 0) = t375
                      ·as_aux_lemma =>
                       rw [if_pos c110] at H
                       have c110b0 : ((rd (rd_L3 t423 x34_5) 0) == t375) = true := beq_iff_eq.mpr c110
                       have c110b1 : ((rd (rd_L3 t423 x34_5) 0) != t375) = false := bne_eq_false_iff_eq.mpr c110
                       clear c110
                       obtain rfl := jM H
                       obtain ⟨Ao111, co111, eo111⟩ := Kd.S_slice HO_30.out
                       subst eo111
                       have p432 : 0 ≤ (x34_5 : Int) := jB za
                       have q432 : x34_5 < (t423.length : Int) := jB za
                       obtain ⟨ad432, A432_0, c432_0, e432, hx432_0, hl432_0, hi432_0⟩ := at_L3 (Kd.S_reads' HO_30.out).2.2 x34_5 p432 q432
                       cases e432
                       obtain ⟨ce432, hce432, hMe432, hcc432⟩ := Kd.S_get HO_30.out [] x34_5 p432 (by first | exact q432 | exact jB za | (have e_ := (Kd.S_reads' HO_30.out).1; omega))
                       obtain ⟨ve432_0, rfl, ge432_0⟩ := hMe432
                       have hv432_0 := hcc432 0 _ rfl
                       rw [Nat.add_zero, show ((Kd.slice 2 (Kd.int .i64))).sz = 1 from rfl, Nat.mul_one] at hv432_0
                       replace hv432_0 := jM (hv432_0.symm.trans hx432_0)
                       rw [hv432_0] at ge432_0
                       have HL432_0 := jA (show Kd.R (Kd.int .i64) 2 _ _ _ _ (rd_L3 t423 x34_5) from ge432_0)
                       clear hv432_0 ge432_0
                       clear hcc432 hce432
                       have HR432_0 := jA hi432_0
                       have HC432_0 := jA hl432_0
                       clear hi432_0 hl432_0
                       replace p432 := eq_true p432
                       replace q432 := eq_true q432
                       have p433 : 0 ≤ (0 : Int) := (by omega)
                       have q433 : 0 < ((rd_L3 t423 x34_5).length : Int) := jB za
                       obtain ⟨ad433, e433, hx433_0⟩ := Kd.at_int (by repeat (first | (with_reducible exact HR432_0.out) | (with_reducible refine jO ?_ _) | (with_reducible refine jN ?_ _) | (with_reducible refine jS ?_) | exact HR432_0.out)) 0 p433 q433
                       cases e433
                       have qi433 : (0 < (rd_L3 t423 x34_5).length) = True := eq_true (by omega)
                       (try rw [show ((0 : Int)).toNat = 0 from rfl] at hx433_0)
                       (try rw [Addr.add_zero'] at hx433_0)
                       replace p433 := eq_true p433
                       replace q433 := eq_true q433
                       go_wp2
                       go_ret
                       exact ⟨by first | rfl | (simp [errW_none, errW_some] <;> rfl) | (simp [*, errW_none, errW_some] <;> rfl), zb0 HB⟩
                      ·as_aux_lemma =>
                       rw [if_neg c110] at H
                       have c110b0 : ((rd (rd_L3 t423 x34_5) 0) == t375) = false := beq_eq_false_iff_ne.mpr c110
                       have c110b1 : ((rd (rd_L3 t423 x34_5) 0) != t375) = true := bne_iff_ne.mpr c110
                       by_cases c112 : 1 < ((rd_L3 t423 x34_5).length : Int)
                       ·as_aux_lemma =>
                        rw [if_pos c112] at H
                        have c112b0 : decide (1 < ((rd_L3 t423 x34_5).length : Int)) = true := jG c112
                        have c112b1 : decide (1 < (rd_L3 t423 x34_5).length) = true := jG (by omega)
                        clear c112
                        by_cases c113 : (rd (rd_L3 t423 x34_5) 1) = t375
                        ·as_aux_lemma =>
                         rw [if_pos c113] at H
                         have c113b0 : ((rd (rd_L3 t423 x34_5) 1) == t375) = true := beq_iff_eq.mpr c113
                         have c113b1 : ((rd (rd_L3 t423 x34_5) 1) != t375) = false := bne_eq_false_iff_eq.mpr c113
                         clear c113
                         obtain rfl := jM H
                         obtain ⟨Ao114, co114, eo114⟩ := Kd.S_slice HO_30.out
                         subst eo114
                         have p432 : 0 ≤ (x34_5 : Int) := jB za
                         have q432 : x34_5 < (t423.length : Int) := jB za
                         obtain ⟨ad432, A432_0, c432_0, e432, hx432_0, hl432_0, hi432_0⟩ := at_L3 (Kd.S_reads' HO_30.out).2.2 x34_5 p432 q432
                         cases e432
                         obtain ⟨ce432, hce432, hMe432, hcc432⟩ := Kd.S_get HO_30.out [] x34_5 p432 (by first | exact q432 | exact jB za | (have e_ := (Kd.S_reads' HO_30.out).1; omega))
                         obtain ⟨ve432_0, rfl, ge432_0⟩ := hMe432
                         have hv432_0 := hcc432 0 _ rfl
                         rw [Nat.add_zero, show ((Kd.slice 2 (Kd.int .i64))).sz = 1 from rfl, Nat.mul_one] at hv432_0
                         replace hv432_0 := jM (hv432_0.symm.trans hx432_0)
                         rw [hv432_0] at ge432_0
                         have HL432_0 := jA (show Kd.R (Kd.int .i64) 2 _ _ _ _ (rd_L3 t423 x34_5) from ge432_0)
                         clear hv432_0 ge432_0
                         clear hcc432 hce432
                         have HR432_0 := jA hi432_0
                         have HC432_0 := jA hl432_0
                         clear hi432_0 hl432_0
                         replace p432 := eq_true p432
                         replace q432 := eq_true q432
                         have p433 : 0 ≤ (0 : Int) := (by omega)
                         have q433 : 0 < ((rd_L3 t423 x34_5).length : Int) := jB za
                         obtain ⟨ad433, e433, hx433_0⟩ := Kd.at_int (by repeat (first | (with_reducible exact HR432_0.out) | (with_reducible refine jO ?_ _) | (with_reducible refine jN ?_ _) | (with_reducible refine jS ?_) | exact HR432_0.out)) 0 p433 q433
                         cases e433
                         have qi433 : (0 < (rd_L3 t423 x34_5).length) = True := eq_true (by omega)
                         (try rw [show ((0 : Int)).toNat = 0 from rfl] at hx433_0)
                         (try rw [Addr.add_zero'] at hx433_0)
                         replace p433 := eq_true p433
                         replace q433 := eq_true q433
                         have p434 : 0 ≤ (x34_5 : Int) := jB za
                         have q434 : x34_5 < (t423.length : Int) := jB za
                         obtain ⟨ad434, A434_0, c434_0, e434, hx434_0, hl434_0, hi434_0⟩ := at_L3 (Kd.S_reads' HO_30.out).2.2 x34_5 p434 q434
                         obtain rfl : ad432 = ad434 := (by injection e434)
                         obtain ⟨ce434, hce434, hMe434, hcc434⟩ := Kd.S_get HO_30.out [] x34_5 p434 (by first | exact q434 | exact jB za | (have e_ := (Kd.S_reads' HO_30.out).1; omega))
                         obtain ⟨ve434_0, rfl, ge434_0⟩ := hMe434
                         have hv434_0 := hcc434 0 _ rfl
                         rw [Nat.add_zero, show ((Kd.slice 2 (Kd.int .i64))).sz = 1 from rfl, Nat.mul_one] at hv434_0
                         replace hv434_0 := jM (hv434_0.symm.trans hx434_0)
                         rw [hv434_0] at ge434_0
                         have HL434_0 := jA (show Kd.R (Kd.int .i64) 2 _ _ _ _ (rd_L3 t423 x34_5) from ge434_0)
                         clear hv434_0 ge434_0
                         clear hcc434 hce434
                         have HR434_0 := jA hi434_0
                         have HC434_0 := jA hl434_0
                         clear hi434_0 hl434_0
                         replace p434 := eq_true p434
                         replace q434 := eq_true q434
                         have ea_ := jM (hx432_0.symm.trans hx434_0)
                         injection ea_ with ea_ en_ ec_
                         subst ea_
                         subst ec_
                         clear en_
                         have p435 : 0 ≤ (1 : Int) := (by omega)
                         have q435 : 1 < ((rd_L3 t423 x34_5).length : Int) := jB za
                         obtain ⟨ad435, e435, hx435_0⟩ := Kd.at_int (by repeat (first | (with_reducible exact HR434_0.out) | (with_reducible refine jO ?_ _) | (with_reducible refine jN ?_ _) | (with_reducible refine jS ?_) | exact HR434_0.out)) 1 p435 q435
                         cases e435
                         (try simp only [show (1 : Int).toNat = 1 from rfl, Nat.reduceMul, Nat.reduceEqDiff, Go.Addr.add, ↓reduceIte] at hx435_0)
                         have qi435 : (1 < (rd_L3 t423 x34_5).length) = True := eq_true (by omega)
                         (try rw [show ((1 : Int)).toNat = 1 from rfl] at hx435_0)
                         replace p435 := eq_true p435
                         replace q435 := eq_true q435
                         go_wp2
                         go_ret
                         exact ⟨by first | rfl | (simp [errW_none, errW_some] <;> rfl) | (simp [*, errW_none, errW_some] <;> rfl), zb0 HB⟩
                        ·as_aux_lemma =>
                         rw [if_neg c113] at H
                         have c113b0 : ((rd (rd_L3 t423 x34_5) 1) == t375) = false := beq_eq_false_iff_ne.mpr c113
                         have c113b1 : ((rd (rd_L3 t423 x34_5) 1) != t375) = true := bne_iff_ne.mpr c113
                         have H' := jA H
                         clear H
                         obtain ⟨Ao115, co115, eo115⟩ := Kd.S_slice HO_30.out
                         subst eo115
                         have p432 : 0 ≤ (x34_5 : Int) := jB za
                         have q432 : x34_5 < (t423.length : Int) := jB za
                         obtain ⟨ad432, A432_0, c432_0, e432, hx432_0, hl432_0, hi432_0⟩ := at_L3 (Kd.S_reads' HO_30.out).2.2 x34_5 p432 q432
                         cases e432
                         obtain ⟨ce432, hce432, hMe432, hcc432⟩ := Kd.S_get HO_30.out [] x34_5 p432 (by first | exact q432 | exact jB za | (have e_ := (Kd.S_reads' HO_30.out).1; omega))
                         obtain ⟨ve432_0, rfl, ge432_0⟩ := hMe432
                         have hv432_0 := hcc432 0 _ rfl
                         rw [Nat.add_zero, show ((Kd.slice 2 (Kd.int .i64))).sz = 1 from rfl, Nat.mul_one] at hv432_0
                         replace hv432_0 := jM (hv432_0.symm.trans hx432_0)
                         rw [hv432_0] at ge432_0
                         have HL432_0 := jA (show Kd.R (Kd.int .i64) 2 _ _ _ _ (rd_L3 t423 x34_5) from ge432_0)
                         clear hv432_0 ge432_0
                         clear hcc432 hce432
                         have HR432_0 := jA hi432_0
                         have HC432_0 := jA hl432_0
                         clear hi432_0 hl432_0
                         replace p432 := eq_true p432
                         replace q432 := eq_true q432
                         have p433 : 0 ≤ (0 : Int) := (by omega)
                         have q433 : 0 < ((rd_L3 t423 x34_5).length : Int) := jB za
                         obtain ⟨ad433, e433, hx433_0⟩ := Kd.at_int (by repeat (first | (with_reducible exact HR432_0.out) | (with_reducible refine jO ?_ _) | (with_reducible refine jN ?_ _) | (with_reducible refine jS ?_) | exact HR432_0.out)) 0 p433 q433
                         cases e433
                         have qi433 : (0 < (rd_L3 t423 x34_5).length) = True := eq_true (by omega)
                         (try rw [show ((0 : Int)).toNat = 0 from rfl] at hx433_0)
                         (try rw [Addr.add_zero'] at hx433_0)
                         replace p433 := eq_true p433
                         replace q433 := eq_true q433
                         have p434 : 0 ≤ (x34_5 : Int) := jB za
                         have q434 : x34_5 < (t423.length : Int) := jB za
                         obtain ⟨ad434, A434_0, c434_0, e434, hx434_0, hl434_0, hi434_0⟩ := at_L3 (Kd.S_reads' HO_30.out).2.2 x34_5 p434 q434
                         obtain rfl : ad432 = ad434 := (by injection e434)
                         obtain ⟨ce434, hce434, hMe434, hcc434⟩ := Kd.S_get HO_30.out [] x34_5 p434 (by first | exact q434 | exact jB za | (have e_ := (Kd.S_reads' HO_30.out).1; omega))
                         obtain ⟨ve434_0, rfl, ge434_0⟩ := hMe434
                         have hv434_0 := hcc434 0 _ rfl
                         rw [Nat.add_zero, show ((Kd.slice 2 (Kd.int .i64))).sz = 1 from rfl, Nat.mul_one] at hv434_0
                         replace hv434_0 := jM (hv434_0.symm.trans hx434_0)
                         rw [hv434_0] at ge434_0
                         have HL434_0 := jA (show Kd.R (Kd.int .i64) 2 _ _ _ _ (rd_L3 t423 x34_5) from ge434_0)
                         clear hv434_0 ge434_0
                         clear hcc434 hce434
                         have HR434_0 := jA hi434_0
                         have HC434_0 := jA hl434_0
                         clear hi434_0 hl434_0
                         replace p434 := eq_true p434
                         replace q434 := eq_true q434
                         have ea_ := jM (hx432_0.symm.trans hx434_0)
                         injection ea_ with ea_ en_ ec_
                         subst ea_
                         subst ec_
                         clear en_
                         have p435 : 0 ≤ (1 : Int) := (by omega)
                         have q435 : 1 < ((rd_L3 t423 x34_5).length : Int) := jB za
                         obtain ⟨ad435, e435, hx435_0⟩ := Kd.at_int (by repeat (first | (with_reducible exact HR434_0.out) | (with_reducible refine jO ?_ _) | (with_reducible refine jN ?_ _) | (with_reducible refine jS ?_) | exact HR434_0.out)) 1 p435 q435
                         cases e435
                         (try simp only [show (1 : Int).toNat = 1 from rfl, Nat.reduceMul, Nat.reduceEqDiff, Go.Addr.add, ↓reduceIte] at hx435_0)
                         have qi435 : (1 < (rd_L3 t423 x34_5).length) = True := eq_true (by omega)
                         (try rw [show ((1 : Int)).toNat = 1 from rfl] at hx435_0)
                         replace p435 := eq_true p435
                         replace q435 := eq_true q435
                         go_wp2
                         go_roundg k5
                         case measure => have := HJ13.out; have := HJ59.out; have := HJ63.out; have := HJ93.out; have := HK5.out; omega
                         case rel => exact ⟨(wrap64 (x34_5 + 1)), zz, H', ⟨by have := HJ13.out; have := HJ59.out; have := HJ63.out; have := HJ93.out; have := HK5.out; omega⟩, ⟨by (with_reducible repeat (first | apply Kd.S_alloc | apply Kd.S_drewN | apply Kd.S_drew)); exact HO_30.out⟩, ⟨zb0 HB⟩⟩
                       ·rw [if_neg c112] at H
                        exact absurd H (by simp)
                     ·rw [if_neg c109] at H
                      exact absurd H (by simp)
                    ·rw [if_neg c108] at H
                     exact absurd H (by simp)
                   ·rw [if_neg c107] at H
                    have c107b0 : decide (x34_5 < (t423.length : Int)) = false := jb c107
                    clear c107
                    obtain rfl := jM H
                    obtain ⟨Ao116, co116, eo116⟩ := Kd.S_slice HO_30.out
                    subst eo116
                    go_wp2
                    go_ret
                    exact ⟨by first | rfl | (simp [errW_none, errW_some] <;> rfl) | (simp [*, errW_none, errW_some] <;> rfl), zb0 HB⟩
             ·rw [if_neg c90] at H
              exact absurd H (by simp)
            ·rw [if_neg c89] at H
             exact absurd H (by simp)
           ·rw [if_neg c88] at H
            exact absurd H (by simp)
          ·rw [if_neg c87] at H
           have c87b0 : (t379 == 0) = false := beq_eq_false_iff_ne.mpr c87
           have c87b1 : (t379 != 0) = true := bne_iff_ne.mpr c87
           obtain rfl := jM H
           go_wp2
           go_ret
           exact ⟨by first | rfl | (simp [errW_none, errW_some] <;> rfl) | (simp [*, errW_none, errW_some] <;> rfl), zb0 HB⟩

/-- THE ONE PURE STATEMENT of laws_FnDepots: yours. -/
def laws_FnDepots.Pure : Prop := ∀ (l0 : List Int), l0.length ≤ maxLen → l0.length * 1 ≤ 140737488351232 → (∀ x ∈ l0, (Lit.int .u8 x).wf = true) → ∃ k, laws_FnDepots.f k l0 = some true
theorem laws_FnDepots.walk (P : laws_FnDepots.Pure) (a0 : Option Addr) (len0 cap0 : Nat) (z0 : List Int) (w : World) (w0 : (a0 = none ∧ len0 = 0 ∧ cap0 = 0 ∧ z0 = []) ∨ ∃ x, a0 = some x ∧ len0 ≤ cap0 ∧ cap0 ≤ maxLen ∧ z0.length = cap0 ∧ (∀ i, i < z0.length → w.cell? (x.add i) = some (.int .u8 (z0.getD i 0))) ∧ ∀ n ∈ z0, (Lit.int .u8 n).wf = true) (y0 : len0 * 1 ≤ 140737488351232) :
  Calls Try.prog 14 #[.slice a0 len0 cap0] w fun e w' => e = .returned (.bool true) ∧ Below w.heap.size w w' := by
 obtain ⟨l0, rfl, hr0, hm0, hw0, hc0⟩ := ReadsInt.ofRowC w0
 obtain ⟨k, h⟩ := P l0 hm0 y0 hw0
 refine (laws_FnDepots.calls k _ _ l0 true w (Kd.C_of_reads (d := (0 : Int)) (h1 := fun _ => rfl) hr0) hc0 h).mono ?_
 rintro e w' ⟨rfl, hd⟩
 exact ⟨rfl, hd⟩

end Go.Proofs.Ytmhnkhealidjjaa.PFnDepots
