/- Functions and contracts that FnCueStates reaches (11 of 11). -/
import Derived.Test.YthnpffomoaeeoaaQFnCueStatesx9
namespace Go.Proofs.Ythnpffomoaeeoaa.PFnCueStates
open Go.RowKit Go.Proofs.YthnpffomoaeeoaaW.PrintWords Go.Proofs.YthnpffomoaeeoaaW.PrintLast Go.Proofs.YthnpffomoaeeoaaW.PrintMore
attribute [local go_sem] max2_int min2_int max_two min_two max_three min_three max_four min_four   -- for this text's walks alone
set_option linter.unusedVariables false
set_option linter.unusedSimpArgs false

/-! ### laws_FnCueStates: function 12 -/
mutual
def laws_FnCueStates.j0 : Nat → List (S36) → Int → List Int → Int → List Int → Int → List (S36) → Int → Int → Int → Int → Int → Bool → Option (Bool)
 | 0, _, _, _, _, _, _, _, _, _, _, _, _, _ => none
 | k + 1, x3, x4, x5, x6, x9, x10, x13, x14, x15, x16, x19, x20, x131 => if x131 = true then (some false) else (if x16 = 0 then ((impl_TriesOf.f k x13 x14).bind fun bt401 => ((spec_TriesOf.f k x13 x14).bind fun bt405 => (if bt401.2 = bt405.2 then ((laws_likeInts.f k bt401.1 bt405.1).bind fun t409 => (laws_FnCueStates.j1 k x3 x4 x5 x6 x9 x10 x15 x19 x20 bt401.1 bt401.2 (!t409))) else (laws_FnCueStates.j1 k x3 x4 x5 x6 x9 x10 x15 x19 x20 bt401.1 bt401.2 true)))) else (laws_FnCueStates.j2 k x3 x4 x5 x6 x9 x10))
def laws_FnCueStates.j2 : Nat → List (S36) → Int → List Int → Int → List Int → Int → Option (Bool)
 | 0, _, _, _, _, _, _ => none
 | k + 1, x3, x4, x5, x6, x9, x10 => if x10 = 0 then (laws_FnCueStates.l0 k x3 x4 x5 x6 x9 0 0) else (laws_FnCueStates.j4 k x3 x4 x5 x6)
def laws_FnCueStates.j4 : Nat → List (S36) → Int → List Int → Int → Option (Bool)
 | 0, _, _, _, _ => none
 | k + 1, x3, x4, x5, x6 => laws_FnCueStates.l1 k x3 x4 x5 x6 0
def laws_FnCueStates.l1 : Nat → List (S36) → Int → List Int → Int → Int → Option (Bool)
 | 0, _, _, _, _, _ => none
 | k + 1, x3, x4, x5, x6, x31 => if x6 = 0 then (laws_FnCueStates.j6 k x3 x4 x5 x6 x31 (decide (x31 < (x5.length : Int)))) else (laws_FnCueStates.j6 k x3 x4 x5 x6 x31 false)
def laws_FnCueStates.j6 : Nat → List (S36) → Int → List Int → Int → Int → Bool → Option (Bool)
 | 0, _, _, _, _, _, _ => none
 | k + 1, x3, x4, x5, x6, x31, x233 => if x233 = true then (if 0 ≤ x31 then (if x31 < (x5.length : Int) then ((impl_CueState.f k x3 (rd x5 x31)).bind fun bt418 => (if bt418.2 = 0 then (if bt418.1 = x4 then (laws_FnCueStates.l1 k x3 x4 x5 x6 (wrap64 (x31 + 1))) else (some false)) else (some false))) else (none)) else (none)) else (some true)
def laws_FnCueStates.l0 : Nat → List (S36) → Int → List Int → Int → List Int → Int → Int → Option (Bool)
 | 0, _, _, _, _, _, _, _ => none
 | k + 1, x3, x4, x5, x6, x9, x27, x28 => if x28 ≤ 3 then ((impl_CuesIn.f k x3 x28).bind fun bt412 => (if bt412.2 = 0 then (if x28 = 2 then ((laws_sum.f k x9).bind fun t416 => (if (bt412.1.length : Int) = t416 then (laws_FnCueStates.l0 k x3 x4 x5 x6 x9 (wrap64 (x27 + (bt412.1.length : Int))) (wrap64 (x28 + 1))) else (some false))) else (laws_FnCueStates.l0 k x3 x4 x5 x6 x9 (wrap64 (x27 + (bt412.1.length : Int))) (wrap64 (x28 + 1)))) else (some false))) else (if x27 = 20 then (laws_FnCueStates.j4 k x3 x4 x5 x6) else (some false))
def laws_FnCueStates.j1 : Nat → List (S36) → Int → List Int → Int → List Int → Int → Int → Int → Int → List Int → Int → Bool → Option (Bool)
 | 0, _, _, _, _, _, _, _, _, _, _, _, _ => none
 | k + 1, x3, x4, x5, x6, x9, x10, x15, x19, x20, x23, x24, x154 => if x154 = true then (some false) else (if x24 = 0 then (if ((x15 == 2) != (x20 == 0)) = true then (some false) else (if ((x15 == 0) != ((x23.length : Int) == 0)) = true then (some false) else (if x15 = 3 then (if (x23.length : Int) = 3 then (if x20 = 0 then (if 0 ≤ (wrap64 ((x23.length : Int) - 1)) then (if (wrap64 ((x23.length : Int) - 1)) < (x23.length : Int) then (if (rd x23 (wrap64 ((x23.length : Int) - 1))) = x19 then (laws_FnCueStates.j2 k x3 x4 x5 x6 x9 x10) else (some false)) else (none)) else (none)) else (laws_FnCueStates.j2 k x3 x4 x5 x6 x9 x10)) else (some false)) else (if x20 = 0 then (if 0 ≤ (wrap64 ((x23.length : Int) - 1)) then (if (wrap64 ((x23.length : Int) - 1)) < (x23.length : Int) then (if (rd x23 (wrap64 ((x23.length : Int) - 1))) = x19 then (laws_FnCueStates.j2 k x3 x4 x5 x6 x9 x10) else (some false)) else (none)) else (none)) else (laws_FnCueStates.j2 k x3 x4 x5 x6 x9 x10))))) else (some false))
end
def laws_FnCueStates.f (k : Nat) (l0 : List Int) : Option (Bool) := (laws_big.f l0).bind fun t366 => (if t366 = true then (some true) else ((spec_DrawCuesIn.f k l0).bind fun bt367 => ((impl_CuesIn.f k bt367.1 bt367.2).bind fun bt371 => ((spec_CuesIn.f k bt367.1 bt367.2).bind fun bt375 => ((impl_CountTries.f k bt367.1).bind fun bt379 => ((spec_CountTries.f k bt367.1).bind fun bt383 => ((spec_DrawCueState.f k l0).bind fun bt387 => ((impl_CueState.f k bt387.1 bt387.2).bind fun bt391 => ((spec_CueState.f k bt387.1 bt387.2).bind fun bt393 => ((impl_FiredIn.f k bt387.1 bt387.2).bind fun bt395 => ((spec_FiredIn.f k bt387.1 bt387.2).bind fun bt397 => (if bt371.2 = bt375.2 then ((laws_likeInts.f k bt371.1 bt375.1).bind fun t399 => (if t399 = true then (if bt379.2 = bt383.2 then ((laws_likeInts.f k bt379.1 bt383.1).bind fun t400 => (if t400 = true then (if bt391.2 = bt393.2 then (if bt391.1 = bt393.1 then (if bt395.2 = bt397.2 then (laws_FnCueStates.j0 k bt367.1 bt367.2 bt371.1 bt371.2 bt379.1 bt379.2 bt387.1 bt387.2 bt391.1 bt391.2 bt395.1 bt395.2 (bt395.1 != bt397.1)) else (laws_FnCueStates.j0 k bt367.1 bt367.2 bt371.1 bt371.2 bt379.1 bt379.2 bt387.1 bt387.2 bt391.1 bt391.2 bt395.1 bt395.2 true)) else (laws_FnCueStates.j0 k bt367.1 bt367.2 bt371.1 bt371.2 bt379.1 bt379.2 bt387.1 bt387.2 bt391.1 bt391.2 bt395.1 bt395.2 true)) else (laws_FnCueStates.j0 k bt367.1 bt367.2 bt371.1 bt371.2 bt379.1 bt379.2 bt387.1 bt387.2 bt391.1 bt391.2 bt395.1 bt395.2 true)) else (laws_FnCueStates.j0 k bt367.1 bt367.2 bt371.1 bt371.2 bt379.1 bt379.2 bt387.1 bt387.2 bt391.1 bt391.2 bt395.1 bt395.2 true))) else (laws_FnCueStates.j0 k bt367.1 bt367.2 bt371.1 bt371.2 bt379.1 bt379.2 bt387.1 bt387.2 bt391.1 bt391.2 bt395.1 bt395.2 true)) else (laws_FnCueStates.j0 k bt367.1 bt367.2 bt371.1 bt371.2 bt379.1 bt379.2 bt387.1 bt387.2 bt391.1 bt391.2 bt395.1 bt395.2 true))) else (laws_FnCueStates.j0 k bt367.1 bt367.2 bt371.1 bt371.2 bt379.1 bt379.2 bt387.1 bt387.2 bt391.1 bt391.2 bt395.1 bt395.2 true)))))))))))))
theorem laws_FnCueStates.mono_l : ∀ k, (∀ y0 y1 y2 y3 y4 y5 y6 y7 y8 y9 y10 y11 y12, LeO (laws_FnCueStates.j0 k y0 y1 y2 y3 y4 y5 y6 y7 y8 y9 y10 y11 y12) (laws_FnCueStates.j0 (k + 1) y0 y1 y2 y3 y4 y5 y6 y7 y8 y9 y10 y11 y12)) ∧ (∀ y0 y1 y2 y3 y4 y5, LeO (laws_FnCueStates.j2 k y0 y1 y2 y3 y4 y5) (laws_FnCueStates.j2 (k + 1) y0 y1 y2 y3 y4 y5)) ∧ (∀ y0 y1 y2 y3, LeO (laws_FnCueStates.j4 k y0 y1 y2 y3) (laws_FnCueStates.j4 (k + 1) y0 y1 y2 y3)) ∧ (∀ y0 y1 y2 y3 y4, LeO (laws_FnCueStates.l1 k y0 y1 y2 y3 y4) (laws_FnCueStates.l1 (k + 1) y0 y1 y2 y3 y4)) ∧ (∀ y0 y1 y2 y3 y4 y5, LeO (laws_FnCueStates.j6 k y0 y1 y2 y3 y4 y5) (laws_FnCueStates.j6 (k + 1) y0 y1 y2 y3 y4 y5)) ∧ (∀ y0 y1 y2 y3 y4 y5 y6, LeO (laws_FnCueStates.l0 k y0 y1 y2 y3 y4 y5 y6) (laws_FnCueStates.l0 (k + 1) y0 y1 y2 y3 y4 y5 y6)) ∧ (∀ y0 y1 y2 y3 y4 y5 y6 y7 y8 y9 y10 y11, LeO (laws_FnCueStates.j1 k y0 y1 y2 y3 y4 y5 y6 y7 y8 y9 y10 y11) (laws_FnCueStates.j1 (k + 1) y0 y1 y2 y3 y4 y5 y6 y7 y8 y9 y10 y11))
 | 0 => ⟨fun _ _ _ _ _ _ _ _ _ _ _ _ _ r h => by simp [laws_FnCueStates.j0] at h, fun _ _ _ _ _ _ r h => by simp [laws_FnCueStates.j2] at h, fun _ _ _ _ r h => by simp [laws_FnCueStates.j4] at h, fun _ _ _ _ _ r h => by simp [laws_FnCueStates.l1] at h, fun _ _ _ _ _ _ r h => by simp [laws_FnCueStates.j6] at h, fun _ _ _ _ _ _ _ r h => by simp [laws_FnCueStates.l0] at h, fun _ _ _ _ _ _ _ _ _ _ _ _ r h => by simp [laws_FnCueStates.j1] at h⟩
 | k + 1 => by
  obtain ⟨ih0, ih1, ih2, ih3, ih4, ih5, ih6⟩ := laws_FnCueStates.mono_l k
  refine ⟨?_, ?_, ?_, ?_, ?_, ?_, ?_⟩
  ·as_aux_lemma =>
   intro y0 y1 y2 y3 y4 y5 y6 y7 y8 y9 y10 y11 y12
   unfold laws_FnCueStates.j0
   repeat' first
   | (with_reducible exact ih0 _ _ _ _ _ _ _ _ _ _ _ _ _)
   | (with_reducible exact ih1 _ _ _ _ _ _)
   | (with_reducible exact ih2 _ _ _ _)
   | (with_reducible exact ih3 _ _ _ _ _)
   | (with_reducible exact ih4 _ _ _ _ _ _)
   | (with_reducible exact ih5 _ _ _ _ _ _ _)
   | (with_reducible exact ih6 _ _ _ _ _ _ _ _ _ _ _ _)
   | (with_reducible exact impl_CountTries.mono _ _)
   | (with_reducible exact impl_CueState.mono _ _ _)
   | (with_reducible exact impl_CuesIn.mono _ _ _)
   | (with_reducible exact impl_FiredIn.mono _ _ _)
   | (with_reducible exact impl_TriesOf.mono _ _ _)
   | (with_reducible exact laws_likeInts.mono _ _ _)
   | (with_reducible exact laws_sum.mono _ _)
   | (with_reducible exact spec_CountTries.mono _ _)
   | (with_reducible exact spec_CueState.mono _ _ _)
   | (with_reducible exact spec_CuesIn.mono _ _ _)
   | (with_reducible exact spec_DrawCueState.mono _ _)
   | (with_reducible exact spec_DrawCuesIn.mono _ _)
   | (with_reducible exact spec_FiredIn.mono _ _ _)
   | (with_reducible exact spec_TriesOf.mono _ _ _)
   | (with_reducible exact LeO.refl _)
   | (with_reducible exact LeO.none _)
   | (with_reducible refine LeO.ite ?_ ?_)
   | (with_reducible refine LeO.bind ?_ (fun _ => ?_))
   | exact ih0 _ _ _ _ _ _ _ _ _ _ _ _ _
   | exact ih1 _ _ _ _ _ _
   | exact ih2 _ _ _ _
   | exact ih3 _ _ _ _ _
   | exact ih4 _ _ _ _ _ _
   | exact ih5 _ _ _ _ _ _ _
   | exact ih6 _ _ _ _ _ _ _ _ _ _ _ _
   | exact impl_CountTries.mono _ _
   | exact impl_CueState.mono _ _ _
   | exact impl_CuesIn.mono _ _ _
   | exact impl_FiredIn.mono _ _ _
   | exact impl_TriesOf.mono _ _ _
   | exact laws_likeInts.mono _ _ _
   | exact laws_sum.mono _ _
   | exact spec_CountTries.mono _ _
   | exact spec_CueState.mono _ _ _
   | exact spec_CuesIn.mono _ _ _
   | exact spec_DrawCueState.mono _ _
   | exact spec_DrawCuesIn.mono _ _
   | exact spec_FiredIn.mono _ _ _
   | exact spec_TriesOf.mono _ _ _
   | exact LeO.none _
   | refine LeO.ite ?_ ?_
   | refine LeO.bind ?_ (fun _ => ?_)
  ·as_aux_lemma =>
   intro y0 y1 y2 y3 y4 y5
   unfold laws_FnCueStates.j2
   repeat' first
   | (with_reducible exact ih0 _ _ _ _ _ _ _ _ _ _ _ _ _)
   | (with_reducible exact ih1 _ _ _ _ _ _)
   | (with_reducible exact ih2 _ _ _ _)
   | (with_reducible exact ih3 _ _ _ _ _)
   | (with_reducible exact ih4 _ _ _ _ _ _)
   | (with_reducible exact ih5 _ _ _ _ _ _ _)
   | (with_reducible exact ih6 _ _ _ _ _ _ _ _ _ _ _ _)
   | (with_reducible exact impl_CountTries.mono _ _)
   | (with_reducible exact impl_CueState.mono _ _ _)
   | (with_reducible exact impl_CuesIn.mono _ _ _)
   | (with_reducible exact impl_FiredIn.mono _ _ _)
   | (with_reducible exact impl_TriesOf.mono _ _ _)
   | (with_reducible exact laws_likeInts.mono _ _ _)
   | (with_reducible exact laws_sum.mono _ _)
   | (with_reducible exact spec_CountTries.mono _ _)
   | (with_reducible exact spec_CueState.mono _ _ _)
   | (with_reducible exact spec_CuesIn.mono _ _ _)
   | (with_reducible exact spec_DrawCueState.mono _ _)
   | (with_reducible exact spec_DrawCuesIn.mono _ _)
   | (with_reducible exact spec_FiredIn.mono _ _ _)
   | (with_reducible exact spec_TriesOf.mono _ _ _)
   | (with_reducible exact LeO.refl _)
   | (with_reducible exact LeO.none _)
   | (with_reducible refine LeO.ite ?_ ?_)
   | (with_reducible refine LeO.bind ?_ (fun _ => ?_))
   | exact ih0 _ _ _ _ _ _ _ _ _ _ _ _ _
   | exact ih1 _ _ _ _ _ _
   | exact ih2 _ _ _ _
   | exact ih3 _ _ _ _ _
   | exact ih4 _ _ _ _ _ _
   | exact ih5 _ _ _ _ _ _ _
   | exact ih6 _ _ _ _ _ _ _ _ _ _ _ _
   | exact impl_CountTries.mono _ _
   | exact impl_CueState.mono _ _ _
   | exact impl_CuesIn.mono _ _ _
   | exact impl_FiredIn.mono _ _ _
   | exact impl_TriesOf.mono _ _ _
   | exact laws_likeInts.mono _ _ _
   | exact laws_sum.mono _ _
   | exact spec_CountTries.mono _ _
   | exact spec_CueState.mono _ _ _
   | exact spec_CuesIn.mono _ _ _
   | exact spec_DrawCueState.mono _ _
   | exact spec_DrawCuesIn.mono _ _
   | exact spec_FiredIn.mono _ _ _
   | exact spec_TriesOf.mono _ _ _
   | exact LeO.none _
   | refine LeO.ite ?_ ?_
   | refine LeO.bind ?_ (fun _ => ?_)
  ·as_aux_lemma =>
   intro y0 y1 y2 y3
   unfold laws_FnCueStates.j4
   repeat' first
   | (with_reducible exact ih0 _ _ _ _ _ _ _ _ _ _ _ _ _)
   | (with_reducible exact ih1 _ _ _ _ _ _)
   | (with_reducible exact ih2 _ _ _ _)
   | (with_reducible exact ih3 _ _ _ _ _)
   | (with_reducible exact ih4 _ _ _ _ _ _)
   | (with_reducible exact ih5 _ _ _ _ _ _ _)
   | (with_reducible exact ih6 _ _ _ _ _ _ _ _ _ _ _ _)
   | (with_reducible exact impl_CountTries.mono _ _)
   | (with_reducible exact impl_CueState.mono _ _ _)
   | (with_reducible exact impl_CuesIn.mono _ _ _)
   | (with_reducible exact impl_FiredIn.mono _ _ _)
   | (with_reducible exact impl_TriesOf.mono _ _ _)
   | (with_reducible exact laws_likeInts.mono _ _ _)
   | (with_reducible exact laws_sum.mono _ _)
   | (with_reducible exact spec_CountTries.mono _ _)
   | (with_reducible exact spec_CueState.mono _ _ _)
   | (with_reducible exact spec_CuesIn.mono _ _ _)
   | (with_reducible exact spec_DrawCueState.mono _ _)
   | (with_reducible exact spec_DrawCuesIn.mono _ _)
   | (with_reducible exact spec_FiredIn.mono _ _ _)
   | (with_reducible exact spec_TriesOf.mono _ _ _)
   | (with_reducible exact LeO.refl _)
   | (with_reducible exact LeO.none _)
   | (with_reducible refine LeO.ite ?_ ?_)
   | (with_reducible refine LeO.bind ?_ (fun _ => ?_))
   | exact ih0 _ _ _ _ _ _ _ _ _ _ _ _ _
   | exact ih1 _ _ _ _ _ _
   | exact ih2 _ _ _ _
   | exact ih3 _ _ _ _ _
   | exact ih4 _ _ _ _ _ _
   | exact ih5 _ _ _ _ _ _ _
   | exact ih6 _ _ _ _ _ _ _ _ _ _ _ _
   | exact impl_CountTries.mono _ _
   | exact impl_CueState.mono _ _ _
   | exact impl_CuesIn.mono _ _ _
   | exact impl_FiredIn.mono _ _ _
   | exact impl_TriesOf.mono _ _ _
   | exact laws_likeInts.mono _ _ _
   | exact laws_sum.mono _ _
   | exact spec_CountTries.mono _ _
   | exact spec_CueState.mono _ _ _
   | exact spec_CuesIn.mono _ _ _
   | exact spec_DrawCueState.mono _ _
   | exact spec_DrawCuesIn.mono _ _
   | exact spec_FiredIn.mono _ _ _
   | exact spec_TriesOf.mono _ _ _
   | exact LeO.none _
   | refine LeO.ite ?_ ?_
   | refine LeO.bind ?_ (fun _ => ?_)
  ·as_aux_lemma =>
   intro y0 y1 y2 y3 y4
   unfold laws_FnCueStates.l1
   repeat' first
   | (with_reducible exact ih0 _ _ _ _ _ _ _ _ _ _ _ _ _)
   | (with_reducible exact ih1 _ _ _ _ _ _)
   | (with_reducible exact ih2 _ _ _ _)
   | (with_reducible exact ih3 _ _ _ _ _)
   | (with_reducible exact ih4 _ _ _ _ _ _)
   | (with_reducible exact ih5 _ _ _ _ _ _ _)
   | (with_reducible exact ih6 _ _ _ _ _ _ _ _ _ _ _ _)
   | (with_reducible exact impl_CountTries.mono _ _)
   | (with_reducible exact impl_CueState.mono _ _ _)
   | (with_reducible exact impl_CuesIn.mono _ _ _)
   | (with_reducible exact impl_FiredIn.mono _ _ _)
   | (with_reducible exact impl_TriesOf.mono _ _ _)
   | (with_reducible exact laws_likeInts.mono _ _ _)
   | (with_reducible exact laws_sum.mono _ _)
   | (with_reducible exact spec_CountTries.mono _ _)
   | (with_reducible exact spec_CueState.mono _ _ _)
   | (with_reducible exact spec_CuesIn.mono _ _ _)
   | (with_reducible exact spec_DrawCueState.mono _ _)
   | (with_reducible exact spec_DrawCuesIn.mono _ _)
   | (with_reducible exact spec_FiredIn.mono _ _ _)
   | (with_reducible exact spec_TriesOf.mono _ _ _)
   | (with_reducible exact LeO.refl _)
   | (with_reducible exact LeO.none _)
   | (with_reducible refine LeO.ite ?_ ?_)
   | (with_reducible refine LeO.bind ?_ (fun _ => ?_))
   | exact ih0 _ _ _ _ _ _ _ _ _ _ _ _ _
   | exact ih1 _ _ _ _ _ _
   | exact ih2 _ _ _ _
   | exact ih3 _ _ _ _ _
   | exact ih4 _ _ _ _ _ _
   | exact ih5 _ _ _ _ _ _ _
   | exact ih6 _ _ _ _ _ _ _ _ _ _ _ _
   | exact impl_CountTries.mono _ _
   | exact impl_CueState.mono _ _ _
   | exact impl_CuesIn.mono _ _ _
   | exact impl_FiredIn.mono _ _ _
   | exact impl_TriesOf.mono _ _ _
   | exact laws_likeInts.mono _ _ _
   | exact laws_sum.mono _ _
   | exact spec_CountTries.mono _ _
   | exact spec_CueState.mono _ _ _
   | exact spec_CuesIn.mono _ _ _
   | exact spec_DrawCueState.mono _ _
   | exact spec_DrawCuesIn.mono _ _
   | exact spec_FiredIn.mono _ _ _
   | exact spec_TriesOf.mono _ _ _
   | exact LeO.none _
   | refine LeO.ite ?_ ?_
   | refine LeO.bind ?_ (fun _ => ?_)
  ·as_aux_lemma =>
   intro y0 y1 y2 y3 y4 y5
   unfold laws_FnCueStates.j6
   repeat' first
   | (with_reducible exact ih0 _ _ _ _ _ _ _ _ _ _ _ _ _)
   | (with_reducible exact ih1 _ _ _ _ _ _)
   | (with_reducible exact ih2 _ _ _ _)
   | (with_reducible exact ih3 _ _ _ _ _)
   | (with_reducible exact ih4 _ _ _ _ _ _)
   | (with_reducible exact ih5 _ _ _ _ _ _ _)
   | (with_reducible exact ih6 _ _ _ _ _ _ _ _ _ _ _ _)
   | (with_reducible exact impl_CountTries.mono _ _)
   | (with_reducible exact impl_CueState.mono _ _ _)
   | (with_reducible exact impl_CuesIn.mono _ _ _)
   | (with_reducible exact impl_FiredIn.mono _ _ _)
   | (with_reducible exact impl_TriesOf.mono _ _ _)
   | (with_reducible exact laws_likeInts.mono _ _ _)
   | (with_reducible exact laws_sum.mono _ _)
   | (with_reducible exact spec_CountTries.mono _ _)
   | (with_reducible exact spec_CueState.mono _ _ _)
   | (with_reducible exact spec_CuesIn.mono _ _ _)
   | (with_reducible exact spec_DrawCueState.mono _ _)
   | (with_reducible exact spec_DrawCuesIn.mono _ _)
   | (with_reducible exact spec_FiredIn.mono _ _ _)
   | (with_reducible exact spec_TriesOf.mono _ _ _)
   | (with_reducible exact LeO.refl _)
   | (with_reducible exact LeO.none _)
   | (with_reducible refine LeO.ite ?_ ?_)
   | (with_reducible refine LeO.bind ?_ (fun _ => ?_))
   | exact ih0 _ _ _ _ _ _ _ _ _ _ _ _ _
   | exact ih1 _ _ _ _ _ _
   | exact ih2 _ _ _ _
   | exact ih3 _ _ _ _ _
   | exact ih4 _ _ _ _ _ _
   | exact ih5 _ _ _ _ _ _ _
   | exact ih6 _ _ _ _ _ _ _ _ _ _ _ _
   | exact impl_CountTries.mono _ _
   | exact impl_CueState.mono _ _ _
   | exact impl_CuesIn.mono _ _ _
   | exact impl_FiredIn.mono _ _ _
   | exact impl_TriesOf.mono _ _ _
   | exact laws_likeInts.mono _ _ _
   | exact laws_sum.mono _ _
   | exact spec_CountTries.mono _ _
   | exact spec_CueState.mono _ _ _
   | exact spec_CuesIn.mono _ _ _
   | exact spec_DrawCueState.mono _ _
   | exact spec_DrawCuesIn.mono _ _
   | exact spec_FiredIn.mono _ _ _
   | exact spec_TriesOf.mono _ _ _
   | exact LeO.none _
   | refine LeO.ite ?_ ?_
   | refine LeO.bind ?_ (fun _ => ?_)
  ·as_aux_lemma =>
   intro y0 y1 y2 y3 y4 y5 y6
   unfold laws_FnCueStates.l0
   repeat' first
   | (with_reducible exact ih0 _ _ _ _ _ _ _ _ _ _ _ _ _)
   | (with_reducible exact ih1 _ _ _ _ _ _)
   | (with_reducible exact ih2 _ _ _ _)
   | (with_reducible exact ih3 _ _ _ _ _)
   | (with_reducible exact ih4 _ _ _ _ _ _)
   | (with_reducible exact ih5 _ _ _ _ _ _ _)
   | (with_reducible exact ih6 _ _ _ _ _ _ _ _ _ _ _ _)
   | (with_reducible exact impl_CountTries.mono _ _)
   | (with_reducible exact impl_CueState.mono _ _ _)
   | (with_reducible exact impl_CuesIn.mono _ _ _)
   | (with_reducible exact impl_FiredIn.mono _ _ _)
   | (with_reducible exact impl_TriesOf.mono _ _ _)
   | (with_reducible exact laws_likeInts.mono _ _ _)
   | (with_reducible exact laws_sum.mono _ _)
   | (with_reducible exact spec_CountTries.mono _ _)
   | (with_reducible exact spec_CueState.mono _ _ _)
   | (with_reducible exact spec_CuesIn.mono _ _ _)
   | (with_reducible exact spec_DrawCueState.mono _ _)
   | (with_reducible exact spec_DrawCuesIn.mono _ _)
   | (with_reducible exact spec_FiredIn.mono _ _ _)
   | (with_reducible exact spec_TriesOf.mono _ _ _)
   | (with_reducible exact LeO.refl _)
   | (with_reducible exact LeO.none _)
   | (with_reducible refine LeO.ite ?_ ?_)
   | (with_reducible refine LeO.bind ?_ (fun _ => ?_))
   | exact ih0 _ _ _ _ _ _ _ _ _ _ _ _ _
   | exact ih1 _ _ _ _ _ _
   | exact ih2 _ _ _ _
   | exact ih3 _ _ _ _ _
   | exact ih4 _ _ _ _ _ _
   | exact ih5 _ _ _ _ _ _ _
   | exact ih6 _ _ _ _ _ _ _ _ _ _ _ _
   | exact impl_CountTries.mono _ _
   | exact impl_CueState.mono _ _ _
   | exact impl_CuesIn.mono _ _ _
   | exact impl_FiredIn.mono _ _ _
   | exact impl_TriesOf.mono _ _ _
   | exact laws_likeInts.mono _ _ _
   | exact laws_sum.mono _ _
   | exact spec_CountTries.mono _ _
   | exact spec_CueState.mono _ _ _
   | exact spec_CuesIn.mono _ _ _
   | exact spec_DrawCueState.mono _ _
   | exact spec_DrawCuesIn.mono _ _
   | exact spec_FiredIn.mono _ _ _
   | exact spec_TriesOf.mono _ _ _
   | exact LeO.none _
   | refine LeO.ite ?_ ?_
   | refine LeO.bind ?_ (fun _ => ?_)
  ·as_aux_lemma =>
   intro y0 y1 y2 y3 y4 y5 y6 y7 y8 y9 y10 y11
   unfold laws_FnCueStates.j1
   repeat' first
   | (with_reducible exact ih0 _ _ _ _ _ _ _ _ _ _ _ _ _)
   | (with_reducible exact ih1 _ _ _ _ _ _)
   | (with_reducible exact ih2 _ _ _ _)
   | (with_reducible exact ih3 _ _ _ _ _)
   | (with_reducible exact ih4 _ _ _ _ _ _)
   | (with_reducible exact ih5 _ _ _ _ _ _ _)
   | (with_reducible exact ih6 _ _ _ _ _ _ _ _ _ _ _ _)
   | (with_reducible exact impl_CountTries.mono _ _)
   | (with_reducible exact impl_CueState.mono _ _ _)
   | (with_reducible exact impl_CuesIn.mono _ _ _)
   | (with_reducible exact impl_FiredIn.mono _ _ _)
   | (with_reducible exact impl_TriesOf.mono _ _ _)
   | (with_reducible exact laws_likeInts.mono _ _ _)
   | (with_reducible exact laws_sum.mono _ _)
   | (with_reducible exact spec_CountTries.mono _ _)
   | (with_reducible exact spec_CueState.mono _ _ _)
   | (with_reducible exact spec_CuesIn.mono _ _ _)
   | (with_reducible exact spec_DrawCueState.mono _ _)
   | (with_reducible exact spec_DrawCuesIn.mono _ _)
   | (with_reducible exact spec_FiredIn.mono _ _ _)
   | (with_reducible exact spec_TriesOf.mono _ _ _)
   | (with_reducible exact LeO.refl _)
   | (with_reducible exact LeO.none _)
   | (with_reducible refine LeO.ite ?_ ?_)
   | (with_reducible refine LeO.bind ?_ (fun _ => ?_))
   | exact ih0 _ _ _ _ _ _ _ _ _ _ _ _ _
   | exact ih1 _ _ _ _ _ _
   | exact ih2 _ _ _ _
   | exact ih3 _ _ _ _ _
   | exact ih4 _ _ _ _ _ _
   | exact ih5 _ _ _ _ _ _ _
   | exact ih6 _ _ _ _ _ _ _ _ _ _ _ _
   | exact impl_CountTries.mono _ _
   | exact impl_CueState.mono _ _ _
   | exact impl_CuesIn.mono _ _ _
   | exact impl_FiredIn.mono _ _ _
   | exact impl_TriesOf.mono _ _ _
   | exact laws_likeInts.mono _ _ _
   | exact laws_sum.mono _ _
   | exact spec_CountTries.mono _ _
   | exact spec_CueState.mono _ _ _
   | exact spec_CuesIn.mono _ _ _
   | exact spec_DrawCueState.mono _ _
   | exact spec_DrawCuesIn.mono _ _
   | exact spec_FiredIn.mono _ _ _
   | exact spec_TriesOf.mono _ _ _
   | exact LeO.none _
   | refine LeO.ite ?_ ?_
   | refine LeO.bind ?_ (fun _ => ?_)
theorem laws_FnCueStates.mono : ∀ a0 k, LeO (laws_FnCueStates.f k a0) (laws_FnCueStates.f (k + 1) a0) := by
 intro a0 k
 obtain ⟨ih0, ih1, ih2, ih3, ih4, ih5, ih6⟩ := laws_FnCueStates.mono_l k
 unfold laws_FnCueStates.f
 repeat' first
   | (with_reducible exact ih0 _ _ _ _ _ _ _ _ _ _ _ _ _)
   | (with_reducible exact ih1 _ _ _ _ _ _)
   | (with_reducible exact ih2 _ _ _ _)
   | (with_reducible exact ih3 _ _ _ _ _)
   | (with_reducible exact ih4 _ _ _ _ _ _)
   | (with_reducible exact ih5 _ _ _ _ _ _ _)
   | (with_reducible exact ih6 _ _ _ _ _ _ _ _ _ _ _ _)
   | (with_reducible exact impl_CountTries.mono _ _)
   | (with_reducible exact impl_CueState.mono _ _ _)
   | (with_reducible exact impl_CuesIn.mono _ _ _)
   | (with_reducible exact impl_FiredIn.mono _ _ _)
   | (with_reducible exact impl_TriesOf.mono _ _ _)
   | (with_reducible exact laws_likeInts.mono _ _ _)
   | (with_reducible exact laws_sum.mono _ _)
   | (with_reducible exact spec_CountTries.mono _ _)
   | (with_reducible exact spec_CueState.mono _ _ _)
   | (with_reducible exact spec_CuesIn.mono _ _ _)
   | (with_reducible exact spec_DrawCueState.mono _ _)
   | (with_reducible exact spec_DrawCuesIn.mono _ _)
   | (with_reducible exact spec_FiredIn.mono _ _ _)
   | (with_reducible exact spec_TriesOf.mono _ _ _)
   | (with_reducible exact LeO.refl _)
   | (with_reducible exact LeO.none _)
   | (with_reducible refine LeO.ite ?_ ?_)
   | (with_reducible refine LeO.bind ?_ (fun _ => ?_))
   | exact ih0 _ _ _ _ _ _ _ _ _ _ _ _ _
   | exact ih1 _ _ _ _ _ _
   | exact ih2 _ _ _ _
   | exact ih3 _ _ _ _ _
   | exact ih4 _ _ _ _ _ _
   | exact ih5 _ _ _ _ _ _ _
   | exact ih6 _ _ _ _ _ _ _ _ _ _ _ _
   | exact impl_CountTries.mono _ _
   | exact impl_CueState.mono _ _ _
   | exact impl_CuesIn.mono _ _ _
   | exact impl_FiredIn.mono _ _ _
   | exact impl_TriesOf.mono _ _ _
   | exact laws_likeInts.mono _ _ _
   | exact laws_sum.mono _ _
   | exact spec_CountTries.mono _ _
   | exact spec_CueState.mono _ _ _
   | exact spec_CuesIn.mono _ _ _
   | exact spec_DrawCueState.mono _ _
   | exact spec_DrawCuesIn.mono _ _
   | exact spec_FiredIn.mono _ _ _
   | exact spec_TriesOf.mono _ _ _
   | exact LeO.none _
   | refine LeO.ite ?_ ?_
   | refine LeO.bind ?_ (fun _ => ?_)
set_option maxHeartbeats 8000000 in
set_option maxRecDepth 100000 in
theorem laws_FnCueStates.calls (k : Nat) (A0 : Option Addr) (c0 : Nat) (l0 : List Int) (r : Bool) (w : World) (hr0 : Kd.C (Kd.int .u8) w A0 l0.length l0) (hc0 : l0.length ≤ c0) (h : laws_FnCueStates.f k l0 = some r) :
  Calls Try.prog 12 #[.slice A0 l0.length c0] w fun e w' => e = .returned (.bool r) ∧ Below w.heap.size w w' := by
 have HR0 := jA hr0
 have HC0 := jA hc0
 clear hr0 hc0
 have HB := jA (Below.refl w.heap.size w)
 have H : ((laws_big.f l0).bind fun t366 => (if t366 = true then (some true) else ((spec_DrawCuesIn.f k l0).bind fun bt367 => ((impl_CuesIn.f k bt367.1 bt367.2).bind fun bt371 => ((spec_CuesIn.f k bt367.1 bt367.2).bind fun bt375 => ((impl_CountTries.f k bt367.1).bind fun bt379 => ((spec_CountTries.f k bt367.1).bind fun bt383 => ((spec_DrawCueState.f k l0).bind fun bt387 => ((impl_CueState.f k bt387.1 bt387.2).bind fun bt391 => ((spec_CueState.f k bt387.1 bt387.2).bind fun bt393 => ((impl_FiredIn.f k bt387.1 bt387.2).bind fun bt395 => ((spec_FiredIn.f k bt387.1 bt387.2).bind fun bt397 => (if bt371.2 = bt375.2 then ((laws_likeInts.f k bt371.1 bt375.1).bind fun t399 => (if t399 = true then (if bt379.2 = bt383.2 then ((laws_likeInts.f k bt379.1 bt383.1).bind fun t400 => (if t400 = true then (if bt391.2 = bt393.2 then (if bt391.1 = bt393.1 then (if bt395.2 = bt397.2 then (laws_FnCueStates.j0 k bt367.1 bt367.2 bt371.1 bt371.2 bt379.1 bt379.2 bt387.1 bt387.2 bt391.1 bt391.2 bt395.1 bt395.2 (bt395.1 != bt397.1)) else (laws_FnCueStates.j0 k bt367.1 bt367.2 bt371.1 bt371.2 bt379.1 bt379.2 bt387.1 bt387.2 bt391.1 bt391.2 bt395.1 bt395.2 true)) else (laws_FnCueStates.j0 k bt367.1 bt367.2 bt371.1 bt371.2 bt379.1 bt379.2 bt387.1 bt387.2 bt391.1 bt391.2 bt395.1 bt395.2 true)) else (laws_FnCueStates.j0 k bt367.1 bt367.2 bt371.1 bt371.2 bt379.1 bt379.2 bt387.1 bt387.2 bt391.1 bt391.2 bt395.1 bt395.2 true)) else (laws_FnCueStates.j0 k bt367.1 bt367.2 bt371.1 bt371.2 bt379.1 bt379.2 bt387.1 bt387.2 bt391.1 bt391.2 bt395.1 bt395.2 true))) else (laws_FnCueStates.j0 k bt367.1 bt367.2 bt371.1 bt371.2 bt379.1 bt379.2 bt387.1 bt387.2 bt391.1 bt391.2 bt395.1 bt395.2 true)) else (laws_FnCueStates.j0 k bt367.1 bt367.2 bt371.1 bt371.2 bt379.1 bt379.2 bt387.1 bt387.2 bt391.1 bt391.2 bt395.1 bt395.2 true))) else (laws_FnCueStates.j0 k bt367.1 bt367.2 bt371.1 bt371.2 bt379.1 bt379.2 bt387.1 bt387.2 bt391.1 bt391.2 bt395.1 bt395.2 true)))))))))))))) = some r := h
 clear h
 replace H := jD.mp H
 obtain ⟨t366, A20, H⟩ := H
 replace H : (if t366 = true then (some true) else ((spec_DrawCuesIn.f k l0).bind fun bt367 => ((impl_CuesIn.f k bt367.1 bt367.2).bind fun bt371 => ((spec_CuesIn.f k bt367.1 bt367.2).bind fun bt375 => ((impl_CountTries.f k bt367.1).bind fun bt379 => ((spec_CountTries.f k bt367.1).bind fun bt383 => ((spec_DrawCueState.f k l0).bind fun bt387 => ((impl_CueState.f k bt387.1 bt387.2).bind fun bt391 => ((spec_CueState.f k bt387.1 bt387.2).bind fun bt393 => ((impl_FiredIn.f k bt387.1 bt387.2).bind fun bt395 => ((spec_FiredIn.f k bt387.1 bt387.2).bind fun bt397 => (if bt371.2 = bt375.2 then ((laws_likeInts.f k bt371.1 bt375.1).bind fun t399 => (if t399 = true then (if bt379.2 = bt383.2 then ((laws_likeInts.f k bt379.1 bt383.1).bind fun t400 => (if t400 = true then (if bt391.2 = bt393.2 then (if bt391.1 = bt393.1 then (if bt395.2 = bt397.2 then (laws_FnCueStates.j0 k bt367.1 bt367.2 bt371.1 bt371.2 bt379.1 bt379.2 bt387.1 bt387.2 bt391.1 bt391.2 bt395.1 bt395.2 (bt395.1 != bt397.1)) else (laws_FnCueStates.j0 k bt367.1 bt367.2 bt371.1 bt371.2 bt379.1 bt379.2 bt387.1 bt387.2 bt391.1 bt391.2 bt395.1 bt395.2 true)) else (laws_FnCueStates.j0 k bt367.1 bt367.2 bt371.1 bt371.2 bt379.1 bt379.2 bt387.1 bt387.2 bt391.1 bt391.2 bt395.1 bt395.2 true)) else (laws_FnCueStates.j0 k bt367.1 bt367.2 bt371.1 bt371.2 bt379.1 bt379.2 bt387.1 bt387.2 bt391.1 bt391.2 bt395.1 bt395.2 true)) else (laws_FnCueStates.j0 k bt367.1 bt367.2 bt371.1 bt371.2 bt379.1 bt379.2 bt387.1 bt387.2 bt391.1 bt391.2 bt395.1 bt395.2 true))) else (laws_FnCueStates.j0 k bt367.1 bt367.2 bt371.1 bt371.2 bt379.1 bt379.2 bt387.1 bt387.2 bt391.1 bt391.2 bt395.1 bt395.2 true)) else (laws_FnCueStates.j0 k bt367.1 bt367.2 bt371.1 bt371.2 bt379.1 bt379.2 bt387.1 bt387.2 bt391.1 bt391.2 bt395.1 bt395.2 true))) else (laws_FnCueStates.j0 k bt367.1 bt367.2 bt371.1 bt371.2 bt379.1 bt379.2 bt387.1 bt387.2 bt391.1 bt391.2 bt395.1 bt395.2 true))))))))))))) = some r := H
 have A2 := jA A20
 clear A20
 by_cases c3 : t366 = true
 ·subst c3
  have H1 : (some true) = some r := by rw [if_pos rfl] at H; exact H
  clear H
  have H := H1
  clear H1
  obtain rfl := jV H
  go_enter Try.func12, Try.ntmps12
  go_wp2_with (first | ((with_reducible refine jL (f := 39) rfl ?_); refine goesL_ (some 35) rfl rfl Try.func39 zr rfl #[.slice A0 l0.length c0] rfl zm ?_; (with_reducible refine (laws_big.calls _ _ l0 true _ ?side1 ?side2 A2.out).mono ?_); (case side1 => repeat (first | exact HR0.out | (with_reducible refine jP ?_ _) | (with_reducible refine jO ?_ _) | (with_reducible refine jU ?_))); (case side2 => exact HC0.out); rintro e w' ⟨rfl, ⟨nd, rfl⟩⟩; refine ⟨_, rfl, ?_⟩))
  go_ret
  exact ⟨by first | rfl | (simp [errW_none, errW_some] <;> rfl) | (simp [*, errW_none, errW_some] <;> rfl), zb0 HB⟩
 ·as_aux_lemma =>
  replace c3 := Bool.eq_false_iff.mpr c3
  subst c3
  have H1 : ((spec_DrawCuesIn.f k l0).bind fun bt367 => ((impl_CuesIn.f k bt367.1 bt367.2).bind fun bt371 => ((spec_CuesIn.f k bt367.1 bt367.2).bind fun bt375 => ((impl_CountTries.f k bt367.1).bind fun bt379 => ((spec_CountTries.f k bt367.1).bind fun bt383 => ((spec_DrawCueState.f k l0).bind fun bt387 => ((impl_CueState.f k bt387.1 bt387.2).bind fun bt391 => ((spec_CueState.f k bt387.1 bt387.2).bind fun bt393 => ((impl_FiredIn.f k bt387.1 bt387.2).bind fun bt395 => ((spec_FiredIn.f k bt387.1 bt387.2).bind fun bt397 => (if bt371.2 = bt375.2 then ((laws_likeInts.f k bt371.1 bt375.1).bind fun t399 => (if t399 = true then (if bt379.2 = bt383.2 then ((laws_likeInts.f k bt379.1 bt383.1).bind fun t400 => (if t400 = true then (if bt391.2 = bt393.2 then (if bt391.1 = bt393.1 then (if bt395.2 = bt397.2 then (laws_FnCueStates.j0 k bt367.1 bt367.2 bt371.1 bt371.2 bt379.1 bt379.2 bt387.1 bt387.2 bt391.1 bt391.2 bt395.1 bt395.2 (bt395.1 != bt397.1)) else (laws_FnCueStates.j0 k bt367.1 bt367.2 bt371.1 bt371.2 bt379.1 bt379.2 bt387.1 bt387.2 bt391.1 bt391.2 bt395.1 bt395.2 true)) else (laws_FnCueStates.j0 k bt367.1 bt367.2 bt371.1 bt371.2 bt379.1 bt379.2 bt387.1 bt387.2 bt391.1 bt391.2 bt395.1 bt395.2 true)) else (laws_FnCueStates.j0 k bt367.1 bt367.2 bt371.1 bt371.2 bt379.1 bt379.2 bt387.1 bt387.2 bt391.1 bt391.2 bt395.1 bt395.2 true)) else (laws_FnCueStates.j0 k bt367.1 bt367.2 bt371.1 bt371.2 bt379.1 bt379.2 bt387.1 bt387.2 bt391.1 bt391.2 bt395.1 bt395.2 true))) else (laws_FnCueStates.j0 k bt367.1 bt367.2 bt371.1 bt371.2 bt379.1 bt379.2 bt387.1 bt387.2 bt391.1 bt391.2 bt395.1 bt395.2 true)) else (laws_FnCueStates.j0 k bt367.1 bt367.2 bt371.1 bt371.2 bt379.1 bt379.2 bt387.1 bt387.2 bt391.1 bt391.2 bt395.1 bt395.2 true))) else (laws_FnCueStates.j0 k bt367.1 bt367.2 bt371.1 bt371.2 bt379.1 bt379.2 bt387.1 bt387.2 bt391.1 bt391.2 bt395.1 bt395.2 true)))))))))))) = some r := by rw [if_neg (show ¬ (false = true) by decide)] at H; exact H
  clear H
  have H := H1
  clear H1
  replace H := jD.mp H
  obtain ⟨⟨t367, t368⟩, A40, H⟩ := H
  replace H : ((impl_CuesIn.f k t367 t368).bind fun bt371 => ((spec_CuesIn.f k t367 t368).bind fun bt375 => ((impl_CountTries.f k t367).bind fun bt379 => ((spec_CountTries.f k t367).bind fun bt383 => ((spec_DrawCueState.f k l0).bind fun bt387 => ((impl_CueState.f k bt387.1 bt387.2).bind fun bt391 => ((spec_CueState.f k bt387.1 bt387.2).bind fun bt393 => ((impl_FiredIn.f k bt387.1 bt387.2).bind fun bt395 => ((spec_FiredIn.f k bt387.1 bt387.2).bind fun bt397 => (if bt371.2 = bt375.2 then ((laws_likeInts.f k bt371.1 bt375.1).bind fun t399 => (if t399 = true then (if bt379.2 = bt383.2 then ((laws_likeInts.f k bt379.1 bt383.1).bind fun t400 => (if t400 = true then (if bt391.2 = bt393.2 then (if bt391.1 = bt393.1 then (if bt395.2 = bt397.2 then (laws_FnCueStates.j0 k t367 t368 bt371.1 bt371.2 bt379.1 bt379.2 bt387.1 bt387.2 bt391.1 bt391.2 bt395.1 bt395.2 (bt395.1 != bt397.1)) else (laws_FnCueStates.j0 k t367 t368 bt371.1 bt371.2 bt379.1 bt379.2 bt387.1 bt387.2 bt391.1 bt391.2 bt395.1 bt395.2 true)) else (laws_FnCueStates.j0 k t367 t368 bt371.1 bt371.2 bt379.1 bt379.2 bt387.1 bt387.2 bt391.1 bt391.2 bt395.1 bt395.2 true)) else (laws_FnCueStates.j0 k t367 t368 bt371.1 bt371.2 bt379.1 bt379.2 bt387.1 bt387.2 bt391.1 bt391.2 bt395.1 bt395.2 true)) else (laws_FnCueStates.j0 k t367 t368 bt371.1 bt371.2 bt379.1 bt379.2 bt387.1 bt387.2 bt391.1 bt391.2 bt395.1 bt395.2 true))) else (laws_FnCueStates.j0 k t367 t368 bt371.1 bt371.2 bt379.1 bt379.2 bt387.1 bt387.2 bt391.1 bt391.2 bt395.1 bt395.2 true)) else (laws_FnCueStates.j0 k t367 t368 bt371.1 bt371.2 bt379.1 bt379.2 bt387.1 bt387.2 bt391.1 bt391.2 bt395.1 bt395.2 true))) else (laws_FnCueStates.j0 k t367 t368 bt371.1 bt371.2 bt379.1 bt379.2 bt387.1 bt387.2 bt391.1 bt391.2 bt395.1 bt395.2 true))))))))))) = some r := H
  have A4 := jA A40
  clear A40
  replace H := jD.mp H
  obtain ⟨⟨t371, t372⟩, A50, H⟩ := H
  replace H : ((spec_CuesIn.f k t367 t368).bind fun bt375 => ((impl_CountTries.f k t367).bind fun bt379 => ((spec_CountTries.f k t367).bind fun bt383 => ((spec_DrawCueState.f k l0).bind fun bt387 => ((impl_CueState.f k bt387.1 bt387.2).bind fun bt391 => ((spec_CueState.f k bt387.1 bt387.2).bind fun bt393 => ((impl_FiredIn.f k bt387.1 bt387.2).bind fun bt395 => ((spec_FiredIn.f k bt387.1 bt387.2).bind fun bt397 => (if t372 = bt375.2 then ((laws_likeInts.f k t371 bt375.1).bind fun t399 => (if t399 = true then (if bt379.2 = bt383.2 then ((laws_likeInts.f k bt379.1 bt383.1).bind fun t400 => (if t400 = true then (if bt391.2 = bt393.2 then (if bt391.1 = bt393.1 then (if bt395.2 = bt397.2 then (laws_FnCueStates.j0 k t367 t368 t371 t372 bt379.1 bt379.2 bt387.1 bt387.2 bt391.1 bt391.2 bt395.1 bt395.2 (bt395.1 != bt397.1)) else (laws_FnCueStates.j0 k t367 t368 t371 t372 bt379.1 bt379.2 bt387.1 bt387.2 bt391.1 bt391.2 bt395.1 bt395.2 true)) else (laws_FnCueStates.j0 k t367 t368 t371 t372 bt379.1 bt379.2 bt387.1 bt387.2 bt391.1 bt391.2 bt395.1 bt395.2 true)) else (laws_FnCueStates.j0 k t367 t368 t371 t372 bt379.1 bt379.2 bt387.1 bt387.2 bt391.1 bt391.2 bt395.1 bt395.2 true)) else (laws_FnCueStates.j0 k t367 t368 t371 t372 bt379.1 bt379.2 bt387.1 bt387.2 bt391.1 bt391.2 bt395.1 bt395.2 true))) else (laws_FnCueStates.j0 k t367 t368 t371 t372 bt379.1 bt379.2 bt387.1 bt387.2 bt391.1 bt391.2 bt395.1 bt395.2 true)) else (laws_FnCueStates.j0 k t367 t368 t371 t372 bt379.1 bt379.2 bt387.1 bt387.2 bt391.1 bt391.2 bt395.1 bt395.2 true))) else (laws_FnCueStates.j0 k t367 t368 t371 t372 bt379.1 bt379.2 bt387.1 bt387.2 bt391.1 bt391.2 bt395.1 bt395.2 true)))))))))) = some r := H
  have A5 := jA A50
  clear A50
  replace H := jD.mp H
  obtain ⟨⟨t375, t376⟩, A60, H⟩ := H
  replace H : ((impl_CountTries.f k t367).bind fun bt379 => ((spec_CountTries.f k t367).bind fun bt383 => ((spec_DrawCueState.f k l0).bind fun bt387 => ((impl_CueState.f k bt387.1 bt387.2).bind fun bt391 => ((spec_CueState.f k bt387.1 bt387.2).bind fun bt393 => ((impl_FiredIn.f k bt387.1 bt387.2).bind fun bt395 => ((spec_FiredIn.f k bt387.1 bt387.2).bind fun bt397 => (if t372 = t376 then ((laws_likeInts.f k t371 t375).bind fun t399 => (if t399 = true then (if bt379.2 = bt383.2 then ((laws_likeInts.f k bt379.1 bt383.1).bind fun t400 => (if t400 = true then (if bt391.2 = bt393.2 then (if bt391.1 = bt393.1 then (if bt395.2 = bt397.2 then (laws_FnCueStates.j0 k t367 t368 t371 t372 bt379.1 bt379.2 bt387.1 bt387.2 bt391.1 bt391.2 bt395.1 bt395.2 (bt395.1 != bt397.1)) else (laws_FnCueStates.j0 k t367 t368 t371 t372 bt379.1 bt379.2 bt387.1 bt387.2 bt391.1 bt391.2 bt395.1 bt395.2 true)) else (laws_FnCueStates.j0 k t367 t368 t371 t372 bt379.1 bt379.2 bt387.1 bt387.2 bt391.1 bt391.2 bt395.1 bt395.2 true)) else (laws_FnCueStates.j0 k t367 t368 t371 t372 bt379.1 bt379.2 bt387.1 bt387.2 bt391.1 bt391.2 bt395.1 bt395.2 true)) else (laws_FnCueStates.j0 k t367 t368 t371 t372 bt379.1 bt379.2 bt387.1 bt387.2 bt391.1 bt391.2 bt395.1 bt395.2 true))) else (laws_FnCueStates.j0 k t367 t368 t371 t372 bt379.1 bt379.2 bt387.1 bt387.2 bt391.1 bt391.2 bt395.1 bt395.2 true)) else (laws_FnCueStates.j0 k t367 t368 t371 t372 bt379.1 bt379.2 bt387.1 bt387.2 bt391.1 bt391.2 bt395.1 bt395.2 true))) else (laws_FnCueStates.j0 k t367 t368 t371 t372 bt379.1 bt379.2 bt387.1 bt387.2 bt391.1 bt391.2 bt395.1 bt395.2 true))))))))) = some r := H
  have A6 := jA A60
  clear A60
  replace H := jD.mp H
  obtain ⟨⟨t379, t380⟩, A70, H⟩ := H
  replace H : ((spec_CountTries.f k t367).bind fun bt383 => ((spec_DrawCueState.f k l0).bind fun bt387 => ((impl_CueState.f k bt387.1 bt387.2).bind fun bt391 => ((spec_CueState.f k bt387.1 bt387.2).bind fun bt393 => ((impl_FiredIn.f k bt387.1 bt387.2).bind fun bt395 => ((spec_FiredIn.f k bt387.1 bt387.2).bind fun bt397 => (if t372 = t376 then ((laws_likeInts.f k t371 t375).bind fun t399 => (if t399 = true then (if t380 = bt383.2 then ((laws_likeInts.f k t379 bt383.1).bind fun t400 => (if t400 = true then (if bt391.2 = bt393.2 then (if bt391.1 = bt393.1 then (if bt395.2 = bt397.2 then (laws_FnCueStates.j0 k t367 t368 t371 t372 t379 t380 bt387.1 bt387.2 bt391.1 bt391.2 bt395.1 bt395.2 (bt395.1 != bt397.1)) else (laws_FnCueStates.j0 k t367 t368 t371 t372 t379 t380 bt387.1 bt387.2 bt391.1 bt391.2 bt395.1 bt395.2 true)) else (laws_FnCueStates.j0 k t367 t368 t371 t372 t379 t380 bt387.1 bt387.2 bt391.1 bt391.2 bt395.1 bt395.2 true)) else (laws_FnCueStates.j0 k t367 t368 t371 t372 t379 t380 bt387.1 bt387.2 bt391.1 bt391.2 bt395.1 bt395.2 true)) else (laws_FnCueStates.j0 k t367 t368 t371 t372 t379 t380 bt387.1 bt387.2 bt391.1 bt391.2 bt395.1 bt395.2 true))) else (laws_FnCueStates.j0 k t367 t368 t371 t372 t379 t380 bt387.1 bt387.2 bt391.1 bt391.2 bt395.1 bt395.2 true)) else (laws_FnCueStates.j0 k t367 t368 t371 t372 t379 t380 bt387.1 bt387.2 bt391.1 bt391.2 bt395.1 bt395.2 true))) else (laws_FnCueStates.j0 k t367 t368 t371 t372 t379 t380 bt387.1 bt387.2 bt391.1 bt391.2 bt395.1 bt395.2 true)))))))) = some r := H
  have A7 := jA A70
  clear A70
  replace H := jD.mp H
  obtain ⟨⟨t383, t384⟩, A80, H⟩ := H
  replace H : ((spec_DrawCueState.f k l0).bind fun bt387 => ((impl_CueState.f k bt387.1 bt387.2).bind fun bt391 => ((spec_CueState.f k bt387.1 bt387.2).bind fun bt393 => ((impl_FiredIn.f k bt387.1 bt387.2).bind fun bt395 => ((spec_FiredIn.f k bt387.1 bt387.2).bind fun bt397 => (if t372 = t376 then ((laws_likeInts.f k t371 t375).bind fun t399 => (if t399 = true then (if t380 = t384 then ((laws_likeInts.f k t379 t383).bind fun t400 => (if t400 = true then (if bt391.2 = bt393.2 then (if bt391.1 = bt393.1 then (if bt395.2 = bt397.2 then (laws_FnCueStates.j0 k t367 t368 t371 t372 t379 t380 bt387.1 bt387.2 bt391.1 bt391.2 bt395.1 bt395.2 (bt395.1 != bt397.1)) else (laws_FnCueStates.j0 k t367 t368 t371 t372 t379 t380 bt387.1 bt387.2 bt391.1 bt391.2 bt395.1 bt395.2 true)) else (laws_FnCueStates.j0 k t367 t368 t371 t372 t379 t380 bt387.1 bt387.2 bt391.1 bt391.2 bt395.1 bt395.2 true)) else (laws_FnCueStates.j0 k t367 t368 t371 t372 t379 t380 bt387.1 bt387.2 bt391.1 bt391.2 bt395.1 bt395.2 true)) else (laws_FnCueStates.j0 k t367 t368 t371 t372 t379 t380 bt387.1 bt387.2 bt391.1 bt391.2 bt395.1 bt395.2 true))) else (laws_FnCueStates.j0 k t367 t368 t371 t372 t379 t380 bt387.1 bt387.2 bt391.1 bt391.2 bt395.1 bt395.2 true)) else (laws_FnCueStates.j0 k t367 t368 t371 t372 t379 t380 bt387.1 bt387.2 bt391.1 bt391.2 bt395.1 bt395.2 true))) else (laws_FnCueStates.j0 k t367 t368 t371 t372 t379 t380 bt387.1 bt387.2 bt391.1 bt391.2 bt395.1 bt395.2 true))))))) = some r := H
  have A8 := jA A80
  clear A80
  replace H := jD.mp H
  obtain ⟨⟨t387, t388⟩, A90, H⟩ := H
  replace H : ((impl_CueState.f k t387 t388).bind fun bt391 => ((spec_CueState.f k t387 t388).bind fun bt393 => ((impl_FiredIn.f k t387 t388).bind fun bt395 => ((spec_FiredIn.f k t387 t388).bind fun bt397 => (if t372 = t376 then ((laws_likeInts.f k t371 t375).bind fun t399 => (if t399 = true then (if t380 = t384 then ((laws_likeInts.f k t379 t383).bind fun t400 => (if t400 = true then (if bt391.2 = bt393.2 then (if bt391.1 = bt393.1 then (if bt395.2 = bt397.2 then (laws_FnCueStates.j0 k t367 t368 t371 t372 t379 t380 t387 t388 bt391.1 bt391.2 bt395.1 bt395.2 (bt395.1 != bt397.1)) else (laws_FnCueStates.j0 k t367 t368 t371 t372 t379 t380 t387 t388 bt391.1 bt391.2 bt395.1 bt395.2 true)) else (laws_FnCueStates.j0 k t367 t368 t371 t372 t379 t380 t387 t388 bt391.1 bt391.2 bt395.1 bt395.2 true)) else (laws_FnCueStates.j0 k t367 t368 t371 t372 t379 t380 t387 t388 bt391.1 bt391.2 bt395.1 bt395.2 true)) else (laws_FnCueStates.j0 k t367 t368 t371 t372 t379 t380 t387 t388 bt391.1 bt391.2 bt395.1 bt395.2 true))) else (laws_FnCueStates.j0 k t367 t368 t371 t372 t379 t380 t387 t388 bt391.1 bt391.2 bt395.1 bt395.2 true)) else (laws_FnCueStates.j0 k t367 t368 t371 t372 t379 t380 t387 t388 bt391.1 bt391.2 bt395.1 bt395.2 true))) else (laws_FnCueStates.j0 k t367 t368 t371 t372 t379 t380 t387 t388 bt391.1 bt391.2 bt395.1 bt395.2 true)))))) = some r := H
  have A9 := jA A90
  clear A90
  replace H := jD.mp H
  obtain ⟨⟨t391, t392⟩, A100, H⟩ := H
  replace H : ((spec_CueState.f k t387 t388).bind fun bt393 => ((impl_FiredIn.f k t387 t388).bind fun bt395 => ((spec_FiredIn.f k t387 t388).bind fun bt397 => (if t372 = t376 then ((laws_likeInts.f k t371 t375).bind fun t399 => (if t399 = true then (if t380 = t384 then ((laws_likeInts.f k t379 t383).bind fun t400 => (if t400 = true then (if t392 = bt393.2 then (if t391 = bt393.1 then (if bt395.2 = bt397.2 then (laws_FnCueStates.j0 k t367 t368 t371 t372 t379 t380 t387 t388 t391 t392 bt395.1 bt395.2 (bt395.1 != bt397.1)) else (laws_FnCueStates.j0 k t367 t368 t371 t372 t379 t380 t387 t388 t391 t392 bt395.1 bt395.2 true)) else (laws_FnCueStates.j0 k t367 t368 t371 t372 t379 t380 t387 t388 t391 t392 bt395.1 bt395.2 true)) else (laws_FnCueStates.j0 k t367 t368 t371 t372 t379 t380 t387 t388 t391 t392 bt395.1 bt395.2 true)) else (laws_FnCueStates.j0 k t367 t368 t371 t372 t379 t380 t387 t388 t391 t392 bt395.1 bt395.2 true))) else (laws_FnCueStates.j0 k t367 t368 t371 t372 t379 t380 t387 t388 t391 t392 bt395.1 bt395.2 true)) else (laws_FnCueStates.j0 k t367 t368 t371 t372 t379 t380 t387 t388 t391 t392 bt395.1 bt395.2 true))) else (laws_FnCueStates.j0 k t367 t368 t371 t372 t379 t380 t387 t388 t391 t392 bt395.1 bt395.2 true))))) = some r := H
  have A10 := jA A100
  clear A100
  replace H := jD.mp H
  obtain ⟨⟨t393, t394⟩, A110, H⟩ := H
  replace H : ((impl_FiredIn.f k t387 t388).bind fun bt395 => ((spec_FiredIn.f k t387 t388).bind fun bt397 => (if t372 = t376 then ((laws_likeInts.f k t371 t375).bind fun t399 => (if t399 = true then (if t380 = t384 then ((laws_likeInts.f k t379 t383).bind fun t400 => (if t400 = true then (if t392 = t394 then (if t391 = t393 then (if bt395.2 = bt397.2 then (laws_FnCueStates.j0 k t367 t368 t371 t372 t379 t380 t387 t388 t391 t392 bt395.1 bt395.2 (bt395.1 != bt397.1)) else (laws_FnCueStates.j0 k t367 t368 t371 t372 t379 t380 t387 t388 t391 t392 bt395.1 bt395.2 true)) else (laws_FnCueStates.j0 k t367 t368 t371 t372 t379 t380 t387 t388 t391 t392 bt395.1 bt395.2 true)) else (laws_FnCueStates.j0 k t367 t368 t371 t372 t379 t380 t387 t388 t391 t392 bt395.1 bt395.2 true)) else (laws_FnCueStates.j0 k t367 t368 t371 t372 t379 t380 t387 t388 t391 t392 bt395.1 bt395.2 true))) else (laws_FnCueStates.j0 k t367 t368 t371 t372 t379 t380 t387 t388 t391 t392 bt395.1 bt395.2 true)) else (laws_FnCueStates.j0 k t367 t368 t371 t372 t379 t380 t387 t388 t391 t392 bt395.1 bt395.2 true))) else (laws_FnCueStates.j0 k t367 t368 t371 t372 t379 t380 t387 t388 t391 t392 bt395.1 bt395.2 true)))) = some r := H
  have A11 := jA A110
  clear A110
  replace H := jD.mp H
  obtain ⟨⟨t395, t396⟩, A120, H⟩ := H
  replace H : ((spec_FiredIn.f k t387 t388).bind fun bt397 => (if t372 = t376 then ((laws_likeInts.f k t371 t375).bind fun t399 => (if t399 = true then (if t380 = t384 then ((laws_likeInts.f k t379 t383).bind fun t400 => (if t400 = true then (if t392 = t394 then (if t391 = t393 then (if t396 = bt397.2 then (laws_FnCueStates.j0 k t367 t368 t371 t372 t379 t380 t387 t388 t391 t392 t395 t396 (t395 != bt397.1)) else (laws_FnCueStates.j0 k t367 t368 t371 t372 t379 t380 t387 t388 t391 t392 t395 t396 true)) else (laws_FnCueStates.j0 k t367 t368 t371 t372 t379 t380 t387 t388 t391 t392 t395 t396 true)) else (laws_FnCueStates.j0 k t367 t368 t371 t372 t379 t380 t387 t388 t391 t392 t395 t396 true)) else (laws_FnCueStates.j0 k t367 t368 t371 t372 t379 t380 t387 t388 t391 t392 t395 t396 true))) else (laws_FnCueStates.j0 k t367 t368 t371 t372 t379 t380 t387 t388 t391 t392 t395 t396 true)) else (laws_FnCueStates.j0 k t367 t368 t371 t372 t379 t380 t387 t388 t391 t392 t395 t396 true))) else (laws_FnCueStates.j0 k t367 t368 t371 t372 t379 t380 t387 t388 t391 t392 t395 t396 true))) = some r := H
  have A12 := jA A120
  clear A120
  replace H := jD.mp H
  obtain ⟨⟨t397, t398⟩, A130, H⟩ := H
  replace H : (if t372 = t376 then ((laws_likeInts.f k t371 t375).bind fun t399 => (if t399 = true then (if t380 = t384 then ((laws_likeInts.f k t379 t383).bind fun t400 => (if t400 = true then (if t392 = t394 then (if t391 = t393 then (if t396 = t398 then (laws_FnCueStates.j0 k t367 t368 t371 t372 t379 t380 t387 t388 t391 t392 t395 t396 (t395 != t397)) else (laws_FnCueStates.j0 k t367 t368 t371 t372 t379 t380 t387 t388 t391 t392 t395 t396 true)) else (laws_FnCueStates.j0 k t367 t368 t371 t372 t379 t380 t387 t388 t391 t392 t395 t396 true)) else (laws_FnCueStates.j0 k t367 t368 t371 t372 t379 t380 t387 t388 t391 t392 t395 t396 true)) else (laws_FnCueStates.j0 k t367 t368 t371 t372 t379 t380 t387 t388 t391 t392 t395 t396 true))) else (laws_FnCueStates.j0 k t367 t368 t371 t372 t379 t380 t387 t388 t391 t392 t395 t396 true)) else (laws_FnCueStates.j0 k t367 t368 t371 t372 t379 t380 t387 t388 t391 t392 t395 t396 true))) else (laws_FnCueStates.j0 k t367 t368 t371 t372 t379 t380 t387 t388 t391 t392 t395 t396 true)) = some r := H
  have A13 := jA A130
  clear A130
  have HC14 := jA H
  clear H
  go_enter Try.func12, Try.ntmps12
  go_upto_region 13 with (first | ((with_reducible refine jL (f := 39) rfl ?_); refine goesL_ (some 35) rfl rfl Try.func39 zr rfl #[.slice A0 l0.length c0] rfl zm ?_; (with_reducible refine (laws_big.calls _ _ l0 false _ ?side1 ?side2 A2.out).mono ?_); (case side1 => repeat (first | exact HR0.out | (with_reducible refine jP ?_ _) | (with_reducible refine jO ?_ _) | (with_reducible refine jU ?_))); (case side2 => exact HC0.out); rintro e w' ⟨rfl, ⟨nd, rfl⟩⟩; refine ⟨_, rfl, ?_⟩) | ((with_reducible refine jL (f := 44) rfl ?_); refine goesL_ (some 38) rfl rfl Try.func44 zr rfl #[.slice A0 l0.length c0] rfl zm ?_; (with_reducible refine (spec_DrawCuesIn.calls k _ _ l0 t367 t368 _ ?side1 ?side2 A4.out).mono ?_); (case side1 => repeat (first | exact HR0.out | (with_reducible refine jP ?_ _) | (with_reducible refine jO ?_ _) | (with_reducible refine jU ?_))); (case side2 => exact HC0.out); rintro e w15 ⟨v369, rfl, ho0, hb⟩; refine ⟨_, rfl, ?_⟩; have n0_ := jA (jZ ho0 (jT (zb0 HB))); have n1_ := jA (jM (zb0 HB) hb); clear HB; have HO370 := n0_; have HB := n1_; clear n0_ n1_; (try clear hb); (try clear hb2); (try clear hk); (try clear hi); (try clear ho0); obtain ⟨Ao16, co16, eo16⟩ := Kd.R_slice HO370.out; subst eo16) | ((with_reducible refine jL (f := 38) rfl ?_); refine goesL_ (some 44) rfl rfl Try.func38 zr rfl #[.slice Ao16 t367.length co16, .int .i64 t368] rfl zm ?_; (with_reducible refine (impl_CuesIn.calls k _ _ t367 t368 t371 t372 _ ?side1 ?side2 A5.out).mono ?_); (case side1 => repeat (first | exact (jH HO370.out).2.2 | (with_reducible refine jP ?_ _) | (with_reducible refine jO ?_ _) | (with_reducible refine jU ?_))); (case side2 => exact (jH HO370.out).2.1); rintro e w17 ⟨v373, rfl, ho0, hb⟩; refine ⟨_, rfl, ?_⟩; have n0_ := jA (jX (zo HO370) hb); have n1_ := jA (jZ ho0 (jT (zb0 HB))); have n2_ := jA (jM (zb0 HB) hb); clear HO370; clear HB; have HO370 := n0_; have HO374 := n1_; have HB := n2_; clear n0_ n1_ n2_; (try clear hb); (try clear hb2); (try clear hk); (try clear hi); (try clear ho0)) | ((with_reducible refine jL (f := 37) rfl ?_); refine goesL_ (some 50) rfl rfl Try.func37 zr rfl #[.slice Ao16 t367.length co16, .int .i64 t368] rfl zm ?_; (with_reducible refine (spec_CuesIn.calls k _ _ t367 t368 t375 t376 _ ?side1 ?side2 A6.out).mono ?_); (case side1 => repeat (first | exact (jH HO370.out).2.2 | (with_reducible refine jP ?_ _) | (with_reducible refine jO ?_ _) | (with_reducible refine jU ?_))); (case side2 => exact (jH HO370.out).2.1); rintro e w18 ⟨v377, rfl, ho0, hb⟩; refine ⟨_, rfl, ?_⟩; have n0_ := jA (jX (zo HO370) hb); have n1_ := jA (Kd.R_elder' (zo HO374) (Kd.R_base ho0) hb); have n2_ := jA (jZ (Kd.R_new' ho0 (Kd.R_lt (zo HO374))) (jT (zb0 HB))); have n3_ := jA (jM (zb0 HB) hb); clear HO370; clear HO374; clear HB; have HO370 := n0_; have HO374 := n1_; have HO378 := n2_; have HB := n3_; clear n0_ n1_ n2_ n3_; (try clear hb); (try clear hb2); (try clear hk); (try clear hi); (try clear ho0)) | ((with_reducible refine jL (f := 36) rfl ?_); refine goesL_ (some 55) rfl rfl Try.func36 zr rfl #[.slice Ao16 t367.length co16] rfl zm ?_; (with_reducible refine (impl_CountTries.calls k _ _ t367 t379 t380 _ ?side1 ?side2 A7.out).mono ?_); (case side1 => repeat (first | exact (jH HO370.out).2.2 | (with_reducible refine jP ?_ _) | (with_reducible refine jO ?_ _) | (with_reducible refine jU ?_))); (case side2 => exact (jH HO370.out).2.1); rintro e w19 ⟨v381, rfl, ho0, hb⟩; refine ⟨_, rfl, ?_⟩; have n0_ := jA (jX (zo HO370) hb); have n1_ := jA (Kd.R_elder' (zo HO374) (Kd.R_base ho0) hb); have n2_ := jA (Kd.R_elder' (zo HO378) (Kd.R_base ho0) hb); have n3_ := jA (jZ (Kd.R_new' (Kd.R_new' ho0 (Kd.R_lt (zo HO374))) (Kd.R_lt (zo HO378))) (jT (zb0 HB))); have n4_ := jA (jM (zb0 HB) hb); clear HO370; clear HO374; clear HO378; clear HB; have HO370 := n0_; have HO374 := n1_; have HO378 := n2_; have HO382 := n3_; have HB := n4_; clear n0_ n1_ n2_ n3_ n4_; (try clear hb); (try clear hb2); (try clear hk); (try clear hi); (try clear ho0)) | ((with_reducible refine jL (f := 35) rfl ?_); refine goesL_ (some 60) rfl rfl Try.func35 zr rfl #[.slice Ao16 t367.length co16] rfl zm ?_; (with_reducible refine (spec_CountTries.calls k _ _ t367 t383 t384 _ ?side1 ?side2 A8.out).mono ?_); (case side1 => repeat (first | exact (jH HO370.out).2.2 | (with_reducible refine jP ?_ _) | (with_reducible refine jO ?_ _) | (with_reducible refine jU ?_))); (case side2 => exact (jH HO370.out).2.1); rintro e w20 ⟨v385, rfl, ho0, hb⟩; refine ⟨_, rfl, ?_⟩; have n0_ := jA (jX (zo HO370) hb); have n1_ := jA (Kd.R_elder' (zo HO374) (Kd.R_base ho0) hb); have n2_ := jA (Kd.R_elder' (zo HO378) (Kd.R_base ho0) hb); have n3_ := jA (Kd.R_elder' (zo HO382) (Kd.R_base ho0) hb); have n4_ := jA (jZ (Kd.R_new' (Kd.R_new' (Kd.R_new' ho0 (Kd.R_lt (zo HO374))) (Kd.R_lt (zo HO378))) (Kd.R_lt (zo HO382))) (jT (zb0 HB))); have n5_ := jA (jM (zb0 HB) hb); clear HO370; clear HO374; clear HO378; clear HO382; clear HB; have HO370 := n0_; have HO374 := n1_; have HO378 := n2_; have HO382 := n3_; have HO386 := n4_; have HB := n5_; clear n0_ n1_ n2_ n3_ n4_ n5_; (try clear hb); (try clear hb2); (try clear hk); (try clear hi); (try clear ho0)) | ((with_reducible refine jL (f := 45) rfl ?_); refine goesL_ (some 65) rfl rfl Try.func45 zr rfl #[.slice A0 l0.length c0] rfl zm ?_; (with_reducible refine (spec_DrawCueState.calls k _ _ l0 t387 t388 _ ?side1 ?side2 A9.out).mono ?_); (case side1 => exact zs HR0 HB); (case side2 => exact HC0.out); rintro e w21 ⟨v389, rfl, ho0, hb⟩; refine ⟨_, rfl, ?_⟩; have n0_ := jA (Kd.R_elder' (zo HO370) (Kd.R_base ho0) hb); have n1_ := jA (jX (zo HO374) hb); have n2_ := jA (jX (zo HO378) hb); have n3_ := jA (jX (zo HO382) hb); have n4_ := jA (jX (zo HO386) hb); have n5_ := jA (jZ (Kd.R_new' ho0 (Kd.R_lt (zo HO370))) (jT (zb0 HB))); have n6_ := jA (jM (zb0 HB) hb); clear HO370; clear HO374; clear HO378; clear HO382; clear HO386; clear HB; have HO370 := n0_; have HO374 := n1_; have HO378 := n2_; have HO382 := n3_; have HO386 := n4_; have HO390 := n5_; have HB := n6_; clear n0_ n1_ n2_ n3_ n4_ n5_ n6_; (try clear hb); (try clear hb2); (try clear hk); (try clear hi); (try clear ho0); obtain ⟨Ao22, co22, eo22⟩ := Kd.R_slice HO390.out; subst eo22) | ((with_reducible refine jL (f := 21) rfl ?_); refine goesL_ (some 71) rfl rfl Try.func21 zr rfl #[.slice Ao22 t387.length co22, .int .i64 t388] rfl zm ?_; (with_reducible refine (impl_CueState.calls k _ _ t387 t388 t391 t392 _ ?side1 ?side2 A10.out).mono ?_); (case side1 => repeat (first | exact (jH HO390.out).2.2 | (with_reducible refine jP ?_ _) | (with_reducible refine jO ?_ _) | (with_reducible refine jU ?_))); (case side2 => exact (jH HO390.out).2.1); rintro e w23 ⟨rfl, hb⟩; refine ⟨_, rfl, ?_⟩; have n0_ := jA (jX (zo HO370) hb); have n1_ := jA (jX (zo HO374) hb); have n2_ := jA (jX (zo HO378) hb); have n3_ := jA (jX (zo HO382) hb); have n4_ := jA (jX (zo HO386) hb); have n5_ := jA (jX (zo HO390) hb); have n6_ := jA (jM (zb0 HB) hb); clear HO370; clear HO374; clear HO378; clear HO382; clear HO386; clear HO390; clear HB; have HO370 := n0_; have HO374 := n1_; have HO378 := n2_; have HO382 := n3_; have HO386 := n4_; have HO390 := n5_; have HB := n6_; clear n0_ n1_ n2_ n3_ n4_ n5_ n6_; (try clear hb); (try clear hb2); (try clear hk); (try clear hi)) | ((with_reducible refine jL (f := 20) rfl ?_); refine goesL_ (some 77) rfl rfl Try.func20 zr rfl #[.slice Ao22 t387.length co22, .int .i64 t388] rfl zm ?_; (with_reducible refine (spec_CueState.calls k _ _ t387 t388 t393 t394 _ ?side1 ?side2 A11.out).mono ?_); (case side1 => repeat (first | exact (jH HO390.out).2.2 | (with_reducible refine jP ?_ _) | (with_reducible refine jO ?_ _) | (with_reducible refine jU ?_))); (case side2 => exact (jH HO390.out).2.1); rintro e w24 ⟨rfl, hb⟩; refine ⟨_, rfl, ?_⟩; have n0_ := jA (jX (zo HO370) hb); have n1_ := jA (jX (zo HO374) hb); have n2_ := jA (jX (zo HO378) hb); have n3_ := jA (jX (zo HO382) hb); have n4_ := jA (jX (zo HO386) hb); have n5_ := jA (jX (zo HO390) hb); have n6_ := jA (jM (zb0 HB) hb); clear HO370; clear HO374; clear HO378; clear HO382; clear HO386; clear HO390; clear HB; have HO370 := n0_; have HO374 := n1_; have HO378 := n2_; have HO382 := n3_; have HO386 := n4_; have HO390 := n5_; have HB := n6_; clear n0_ n1_ n2_ n3_ n4_ n5_ n6_; (try clear hb); (try clear hb2); (try clear hk); (try clear hi)) | ((with_reducible refine jL (f := 19) rfl ?_); refine goesL_ (some 83) rfl rfl Try.func19 zr rfl #[.slice Ao22 t387.length co22, .int .i64 t388] rfl zm ?_; (with_reducible refine (impl_FiredIn.calls k _ _ t387 t388 t395 t396 _ ?side1 ?side2 A12.out).mono ?_); (case side1 => repeat (first | exact (jH HO390.out).2.2 | (with_reducible refine jP ?_ _) | (with_reducible refine jO ?_ _) | (with_reducible refine jU ?_))); (case side2 => exact (jH HO390.out).2.1); rintro e w25 ⟨rfl, hb⟩; refine ⟨_, rfl, ?_⟩; have n0_ := jA (jX (zo HO370) hb); have n1_ := jA (jX (zo HO374) hb); have n2_ := jA (jX (zo HO378) hb); have n3_ := jA (jX (zo HO382) hb); have n4_ := jA (jX (zo HO386) hb); have n5_ := jA (jX (zo HO390) hb); have n6_ := jA (jM (zb0 HB) hb); clear HO370; clear HO374; clear HO378; clear HO382; clear HO386; clear HO390; clear HB; have HO370 := n0_; have HO374 := n1_; have HO378 := n2_; have HO382 := n3_; have HO386 := n4_; have HO390 := n5_; have HB := n6_; clear n0_ n1_ n2_ n3_ n4_ n5_ n6_; (try clear hb); (try clear hb2); (try clear hk); (try clear hi)) | ((with_reducible refine jL (f := 18) rfl ?_); refine goesL_ (some 89) rfl rfl Try.func18 zr rfl #[.slice Ao22 t387.length co22, .int .i64 t388] rfl zm ?_; (with_reducible refine (spec_FiredIn.calls k _ _ t387 t388 t397 t398 _ ?side1 ?side2 A13.out).mono ?_); (case side1 => repeat (first | exact (jH HO390.out).2.2 | (with_reducible refine jP ?_ _) | (with_reducible refine jO ?_ _) | (with_reducible refine jU ?_))); (case side2 => exact (jH HO390.out).2.1); rintro e w26 ⟨rfl, hb⟩; refine ⟨_, rfl, ?_⟩; have n0_ := jA (jX (zo HO370) hb); have n1_ := jA (jX (zo HO374) hb); have n2_ := jA (jX (zo HO378) hb); have n3_ := jA (jX (zo HO382) hb); have n4_ := jA (jX (zo HO386) hb); have n5_ := jA (jX (zo HO390) hb); have n6_ := jA (jM (zb0 HB) hb); clear HO370; clear HO374; clear HO378; clear HO382; clear HO386; clear HO390; clear HB; have HO370 := n0_; have HO374 := n1_; have HO378 := n2_; have HO382 := n3_; have HO386 := n4_; have HO390 := n5_; have HB := n6_; clear n0_ n1_ n2_ n3_ n4_ n5_ n6_; (try clear hb); (try clear hb2); (try clear hk); (try clear hi)))
  (try simp only [Act.put, jB, jI, jJ])
  go_cut [131] (fun v131 wc => ∃ (kq : Nat) (x131_13 : Bool), v131 = .bool x131_13 ∧ Aside0 (laws_FnCueStates.j0 kq t367 t368 t371 t372 t379 t380 t387 t388 t391 t392 t395 t396 x131_13 = some r) ∧ Aside0 (kq ≤ k) ∧ Aside0 (Kd.R k36 36 wc w.heap.size (fun k_ => some k_ ≠ ((.slice Ao22 t387.length co22) : Value).ownBlock) (.slice Ao16 t367.length co16) t367) ∧ Aside0 (Kd.R (Kd.int .i64) 2 wc w.heap.size (fun k_ => some k_ ≠ (v381 : Value).ownBlock) v373 t371) ∧ Aside0 (Kd.R (Kd.int .i64) 2 wc w.heap.size (fun k_ => some k_ ≠ (v373 : Value).ownBlock) v381 t379) ∧ Aside0 (Kd.R k36 36 wc w.heap.size (fun k_ => some k_ ≠ ((.slice Ao16 t367.length co16) : Value).ownBlock) (.slice Ao22 t387.length co22) t387) ∧ Aside0 (Below w.heap.size w wc))
  case first =>
   have H := HC14.out
   clear HC14
   by_cases c27 : t372 = t376
   ·as_aux_lemma =>
    rw [if_pos c27] at H
    have c27b0 : (t372 == t376) = true := beq_iff_eq.mpr c27
    have c27b1 : (t372 != t376) = false := bne_eq_false_iff_eq.mpr c27
    clear c27
    (first | rw [c27b0] | (simp only [i64_w, i32_w]; rw [c27b0]) | skip)
    replace H := jD.mp H
    obtain ⟨t399, A280, H⟩ := H
    replace H : (if t399 = true then (if t380 = t384 then ((laws_likeInts.f k t379 t383).bind fun t400 => (if t400 = true then (if t392 = t394 then (if t391 = t393 then (if t396 = t398 then (laws_FnCueStates.j0 k t367 t368 t371 t372 t379 t380 t387 t388 t391 t392 t395 t396 (t395 != t397)) else (laws_FnCueStates.j0 k t367 t368 t371 t372 t379 t380 t387 t388 t391 t392 t395 t396 true)) else (laws_FnCueStates.j0 k t367 t368 t371 t372 t379 t380 t387 t388 t391 t392 t395 t396 true)) else (laws_FnCueStates.j0 k t367 t368 t371 t372 t379 t380 t387 t388 t391 t392 t395 t396 true)) else (laws_FnCueStates.j0 k t367 t368 t371 t372 t379 t380 t387 t388 t391 t392 t395 t396 true))) else (laws_FnCueStates.j0 k t367 t368 t371 t372 t379 t380 t387 t388 t391 t392 t395 t396 true)) else (laws_FnCueStates.j0 k t367 t368 t371 t372 t379 t380 t387 t388 t391 t392 t395 t396 true)) = some r := H
    have A28 := jA A280
    clear A280
    by_cases c29 : t399 = true
    ·as_aux_lemma =>
     subst c29
     have H1 : (if t380 = t384 then ((laws_likeInts.f k t379 t383).bind fun t400 => (if t400 = true then (if t392 = t394 then (if t391 = t393 then (if t396 = t398 then (laws_FnCueStates.j0 k t367 t368 t371 t372 t379 t380 t387 t388 t391 t392 t395 t396 (t395 != t397)) else (laws_FnCueStates.j0 k t367 t368 t371 t372 t379 t380 t387 t388 t391 t392 t395 t396 true)) else (laws_FnCueStates.j0 k t367 t368 t371 t372 t379 t380 t387 t388 t391 t392 t395 t396 true)) else (laws_FnCueStates.j0 k t367 t368 t371 t372 t379 t380 t387 t388 t391 t392 t395 t396 true)) else (laws_FnCueStates.j0 k t367 t368 t371 t372 t379 t380 t387 t388 t391 t392 t395 t396 true))) else (laws_FnCueStates.j0 k t367 t368 t371 t372 t379 t380 t387 t388 t391 t392 t395 t396 true)) = some r := by rw [if_pos rfl] at H; exact H
     clear H
     have H := H1
     clear H1
     by_cases c30 : t380 = t384
     ·as_aux_lemma =>
      rw [if_pos c30] at H
      have c30b0 : (t380 == t384) = true := beq_iff_eq.mpr c30
      have c30b1 : (t380 != t384) = false := bne_eq_false_iff_eq.mpr c30
      clear c30
      replace H := jD.mp H
      obtain ⟨t400, A310, H⟩ := H
      replace H : (if t400 = true then (if t392 = t394 then (if t391 = t393 then (if t396 = t398 then (laws_FnCueStates.j0 k t367 t368 t371 t372 t379 t380 t387 t388 t391 t392 t395 t396 (t395 != t397)) else (laws_FnCueStates.j0 k t367 t368 t371 t372 t379 t380 t387 t388 t391 t392 t395 t396 true)) else (laws_FnCueStates.j0 k t367 t368 t371 t372 t379 t380 t387 t388 t391 t392 t395 t396 true)) else (laws_FnCueStates.j0 k t367 t368 t371 t372 t379 t380 t387 t388 t391 t392 t395 t396 true)) else (laws_FnCueStates.j0 k t367 t368 t371 t372 t379 t380 t387 t388 t391 t392 t395 t396 true)) = some r := H
      have A31 := jA A310
      clear A310
      by_cases c32 : t400 = true
      ·as_aux_lemma =>
       subst c32
       have H1 : (if t392 = t394 then (if t391 = t393 then (if t396 = t398 then (laws_FnCueStates.j0 k t367 t368 t371 t372 t379 t380 t387 t388 t391 t392 t395 t396 (t395 != t397)) else (laws_FnCueStates.j0 k t367 t368 t371 t372 t379 t380 t387 t388 t391 t392 t395 t396 true)) else (laws_FnCueStates.j0 k t367 t368 t371 t372 t379 t380 t387 t388 t391 t392 t395 t396 true)) else (laws_FnCueStates.j0 k t367 t368 t371 t372 t379 t380 t387 t388 t391 t392 t395 t396 true)) = some r := by rw [if_pos rfl] at H; exact H
       clear H
       have H := H1
       clear H1
       by_cases c33 : t392 = t394
       ·as_aux_lemma =>
        rw [if_pos c33] at H
        have c33b0 : (t392 == t394) = true := beq_iff_eq.mpr c33
        have c33b1 : (t392 != t394) = false := bne_eq_false_iff_eq.mpr c33
        clear c33
        by_cases c34 : t391 = t393
        ·as_aux_lemma =>
         rw [if_pos c34] at H
         have c34b0 : (t391 == t393) = true := beq_iff_eq.mpr c34
         have c34b1 : (t391 != t393) = false := bne_eq_false_iff_eq.mpr c34
         clear c34
         by_cases c35 : t396 = t398
         ·rw [if_pos c35] at H
          have c35b0 : (t396 == t398) = true := beq_iff_eq.mpr c35
          have c35b1 : (t396 != t398) = false := bne_eq_false_iff_eq.mpr c35
          clear c35
          have H' := jA H
          clear H
          obtain ⟨Ao36, co36, eo36⟩ := Kd.R_slice HO374.out
          subst eo36
          obtain ⟨Ao37, co37, eo37⟩ := Kd.R_slice HO378.out
          subst eo37
          go_wp2_with (first | (go_at_call 43; (with_reducible refine (laws_likeInts.calls k _ _ t371 _ _ t375 true _ ?side1 ?side2 ?side3 ?side4 A28.out).mono ?_); (case side1 => repeat (first | exact (jH HO374.out).2.2 | (with_reducible refine jP ?_ _) | (with_reducible refine jO ?_ _) | (with_reducible refine jU ?_))); (case side2 => exact (jH HO374.out).2.1); (case side3 => repeat (first | exact (jH HO378.out).2.2 | (with_reducible refine jP ?_ _) | (with_reducible refine jO ?_ _) | (with_reducible refine jU ?_))); (case side4 => exact (jH HO378.out).2.1); rintro e w' ⟨rfl, ⟨nd, rfl⟩⟩; obtain ⟨Ao38, co38, eo38⟩ := Kd.R_slice HO382.out; subst eo38; obtain ⟨Ao39, co39, eo39⟩ := Kd.R_slice HO386.out; subst eo39) | (go_at_call 43; (with_reducible refine (laws_likeInts.calls k _ _ t379 _ _ t383 true _ ?side1 ?side2 ?side3 ?side4 A31.out).mono ?_); (case side1 => repeat (first | exact (jH HO382.out).2.2 | (with_reducible refine jP ?_ _) | (with_reducible refine jO ?_ _) | (with_reducible refine jU ?_))); (case side2 => exact (jH HO382.out).2.1); (case side3 => repeat (first | exact (jH HO386.out).2.2 | (with_reducible refine jP ?_ _) | (with_reducible refine jO ?_ _) | (with_reducible refine jU ?_))); (case side4 => exact (jH HO386.out).2.1); rintro e w' ⟨rfl, ⟨nd, rfl⟩⟩))
          go_meet
          case rel => exact ⟨_, ((t395 != t397)), zz, H', ⟨by first | omega | exact Nat.le_refl _⟩, ⟨by (with_reducible repeat (first | apply jG | apply jF | apply jK)); exact Kd.R_mono HO370.out (fun _ hk => hk.2)⟩, ⟨by (with_reducible repeat (first | apply jG | apply jF | apply jK)); exact Kd.R_mono HO374.out (fun _ hk => hk.1.2)⟩, ⟨by (with_reducible repeat (first | apply jG | apply jF | apply jK)); exact Kd.R_mono HO382.out (fun _ hk => hk.1.1.2)⟩, ⟨by (with_reducible repeat (first | apply jG | apply jF | apply jK)); exact Kd.R_mono HO390.out (fun _ hk => hk.2)⟩, ⟨zb0 HB⟩⟩
         ·rw [if_neg c35] at H
          have c35b0 : (t396 == t398) = false := beq_eq_false_iff_ne.mpr c35
          have c35b1 : (t396 != t398) = true := bne_iff_ne.mpr c35
          have H' := jA H
          clear H
          obtain ⟨Ao40, co40, eo40⟩ := Kd.R_slice HO374.out
          subst eo40
          obtain ⟨Ao41, co41, eo41⟩ := Kd.R_slice HO378.out
          subst eo41
          go_wp2_with (first | (go_at_call 43; (with_reducible refine (laws_likeInts.calls k _ _ t371 _ _ t375 true _ ?side1 ?side2 ?side3 ?side4 A28.out).mono ?_); (case side1 => repeat (first | exact (jH HO374.out).2.2 | (with_reducible refine jP ?_ _) | (with_reducible refine jO ?_ _) | (with_reducible refine jU ?_))); (case side2 => exact (jH HO374.out).2.1); (case side3 => repeat (first | exact (jH HO378.out).2.2 | (with_reducible refine jP ?_ _) | (with_reducible refine jO ?_ _) | (with_reducible refine jU ?_))); (case side4 => exact (jH HO378.out).2.1); rintro e w' ⟨rfl, ⟨nd, rfl⟩⟩; obtain ⟨Ao42, co42, eo42⟩ := Kd.R_slice HO382.out; subst eo42; obtain ⟨Ao43, co43, eo43⟩ := Kd.R_slice HO386.out; subst eo43) | (go_at_call 43; (with_reducible refine (laws_likeInts.calls k _ _ t379 _ _ t383 true _ ?side1 ?side2 ?side3 ?side4 A31.out).mono ?_); (case side1 => repeat (first | exact (jH HO382.out).2.2 | (with_reducible refine jP ?_ _) | (with_reducible refine jO ?_ _) | (with_reducible refine jU ?_))); (case side2 => exact (jH HO382.out).2.1); (case side3 => repeat (first | exact (jH HO386.out).2.2 | (with_reducible refine jP ?_ _) | (with_reducible refine jO ?_ _) | (with_reducible refine jU ?_))); (case side4 => exact (jH HO386.out).2.1); rintro e w' ⟨rfl, ⟨nd, rfl⟩⟩))
          go_meet
          case rel => exact ⟨_, (true), zz, H', ⟨by first | omega | exact Nat.le_refl _⟩, ⟨by (with_reducible repeat (first | apply jG | apply jF | apply jK)); exact Kd.R_mono HO370.out (fun _ hk => hk.2)⟩, ⟨by (with_reducible repeat (first | apply jG | apply jF | apply jK)); exact Kd.R_mono HO374.out (fun _ hk => hk.1.2)⟩, ⟨by (with_reducible repeat (first | apply jG | apply jF | apply jK)); exact Kd.R_mono HO382.out (fun _ hk => hk.1.1.2)⟩, ⟨by (with_reducible repeat (first | apply jG | apply jF | apply jK)); exact Kd.R_mono HO390.out (fun _ hk => hk.2)⟩, ⟨zb0 HB⟩⟩
        ·rw [if_neg c34] at H
         have c34b0 : (t391 == t393) = false := beq_eq_false_iff_ne.mpr c34
         have c34b1 : (t391 != t393) = true := bne_iff_ne.mpr c34
         have H' := jA H
         clear H
         obtain ⟨Ao44, co44, eo44⟩ := Kd.R_slice HO374.out
         subst eo44
         obtain ⟨Ao45, co45, eo45⟩ := Kd.R_slice HO378.out
         subst eo45
         go_wp2_with (first | (go_at_call 43; (with_reducible refine (laws_likeInts.calls k _ _ t371 _ _ t375 true _ ?side1 ?side2 ?side3 ?side4 A28.out).mono ?_); (case side1 => repeat (first | exact (jH HO374.out).2.2 | (with_reducible refine jP ?_ _) | (with_reducible refine jO ?_ _) | (with_reducible refine jU ?_))); (case side2 => exact (jH HO374.out).2.1); (case side3 => repeat (first | exact (jH HO378.out).2.2 | (with_reducible refine jP ?_ _) | (with_reducible refine jO ?_ _) | (with_reducible refine jU ?_))); (case side4 => exact (jH HO378.out).2.1); rintro e w' ⟨rfl, ⟨nd, rfl⟩⟩; obtain ⟨Ao46, co46, eo46⟩ := Kd.R_slice HO382.out; subst eo46; obtain ⟨Ao47, co47, eo47⟩ := Kd.R_slice HO386.out; subst eo47) | (go_at_call 43; (with_reducible refine (laws_likeInts.calls k _ _ t379 _ _ t383 true _ ?side1 ?side2 ?side3 ?side4 A31.out).mono ?_); (case side1 => repeat (first | exact (jH HO382.out).2.2 | (with_reducible refine jP ?_ _) | (with_reducible refine jO ?_ _) | (with_reducible refine jU ?_))); (case side2 => exact (jH HO382.out).2.1); (case side3 => repeat (first | exact (jH HO386.out).2.2 | (with_reducible refine jP ?_ _) | (with_reducible refine jO ?_ _) | (with_reducible refine jU ?_))); (case side4 => exact (jH HO386.out).2.1); rintro e w' ⟨rfl, ⟨nd, rfl⟩⟩))
         go_meet
         case rel => exact ⟨_, (true), zz, H', ⟨by first | omega | exact Nat.le_refl _⟩, ⟨by (with_reducible repeat (first | apply jG | apply jF | apply jK)); exact Kd.R_mono HO370.out (fun _ hk => hk.2)⟩, ⟨by (with_reducible repeat (first | apply jG | apply jF | apply jK)); exact Kd.R_mono HO374.out (fun _ hk => hk.1.2)⟩, ⟨by (with_reducible repeat (first | apply jG | apply jF | apply jK)); exact Kd.R_mono HO382.out (fun _ hk => hk.1.1.2)⟩, ⟨by (with_reducible repeat (first | apply jG | apply jF | apply jK)); exact Kd.R_mono HO390.out (fun _ hk => hk.2)⟩, ⟨zb0 HB⟩⟩
       ·rw [if_neg c33] at H
        have c33b0 : (t392 == t394) = false := beq_eq_false_iff_ne.mpr c33
        have c33b1 : (t392 != t394) = true := bne_iff_ne.mpr c33
        have H' := jA H
        clear H
        obtain ⟨Ao48, co48, eo48⟩ := Kd.R_slice HO374.out
        subst eo48
        obtain ⟨Ao49, co49, eo49⟩ := Kd.R_slice HO378.out
        subst eo49
        go_wp2_with (first | (go_at_call 43; (with_reducible refine (laws_likeInts.calls k _ _ t371 _ _ t375 true _ ?side1 ?side2 ?side3 ?side4 A28.out).mono ?_); (case side1 => repeat (first | exact (jH HO374.out).2.2 | (with_reducible refine jP ?_ _) | (with_reducible refine jO ?_ _) | (with_reducible refine jU ?_))); (case side2 => exact (jH HO374.out).2.1); (case side3 => repeat (first | exact (jH HO378.out).2.2 | (with_reducible refine jP ?_ _) | (with_reducible refine jO ?_ _) | (with_reducible refine jU ?_))); (case side4 => exact (jH HO378.out).2.1); rintro e w' ⟨rfl, ⟨nd, rfl⟩⟩; obtain ⟨Ao50, co50, eo50⟩ := Kd.R_slice HO382.out; subst eo50; obtain ⟨Ao51, co51, eo51⟩ := Kd.R_slice HO386.out; subst eo51) | (go_at_call 43; (with_reducible refine (laws_likeInts.calls k _ _ t379 _ _ t383 true _ ?side1 ?side2 ?side3 ?side4 A31.out).mono ?_); (case side1 => repeat (first | exact (jH HO382.out).2.2 | (with_reducible refine jP ?_ _) | (with_reducible refine jO ?_ _) | (with_reducible refine jU ?_))); (case side2 => exact (jH HO382.out).2.1); (case side3 => repeat (first | exact (jH HO386.out).2.2 | (with_reducible refine jP ?_ _) | (with_reducible refine jO ?_ _) | (with_reducible refine jU ?_))); (case side4 => exact (jH HO386.out).2.1); rintro e w' ⟨rfl, ⟨nd, rfl⟩⟩))
        go_meet
        case rel => exact ⟨_, (true), zz, H', ⟨by first | omega | exact Nat.le_refl _⟩, ⟨by (with_reducible repeat (first | apply jG | apply jF | apply jK)); exact Kd.R_mono HO370.out (fun _ hk => hk.2)⟩, ⟨by (with_reducible repeat (first | apply jG | apply jF | apply jK)); exact Kd.R_mono HO374.out (fun _ hk => hk.1.2)⟩, ⟨by (with_reducible repeat (first | apply jG | apply jF | apply jK)); exact Kd.R_mono HO382.out (fun _ hk => hk.1.1.2)⟩, ⟨by (with_reducible repeat (first | apply jG | apply jF | apply jK)); exact Kd.R_mono HO390.out (fun _ hk => hk.2)⟩, ⟨zb0 HB⟩⟩
      ·replace c32 := Bool.eq_false_iff.mpr c32
       subst c32
       have H1 : (laws_FnCueStates.j0 k t367 t368 t371 t372 t379 t380 t387 t388 t391 t392 t395 t396 true) = some r := by rw [if_neg (show ¬ (false = true) by decide)] at H; exact H
       clear H
       have H := H1
       clear H1
       have H' := jA H
       clear H
       obtain ⟨Ao52, co52, eo52⟩ := Kd.R_slice HO374.out
       subst eo52
       obtain ⟨Ao53, co53, eo53⟩ := Kd.R_slice HO378.out
       subst eo53
       go_wp2_with (first | (go_at_call 43; (with_reducible refine (laws_likeInts.calls k _ _ t371 _ _ t375 true _ ?side1 ?side2 ?side3 ?side4 A28.out).mono ?_); (case side1 => repeat (first | exact (jH HO374.out).2.2 | (with_reducible refine jP ?_ _) | (with_reducible refine jO ?_ _) | (with_reducible refine jU ?_))); (case side2 => exact (jH HO374.out).2.1); (case side3 => repeat (first | exact (jH HO378.out).2.2 | (with_reducible refine jP ?_ _) | (with_reducible refine jO ?_ _) | (with_reducible refine jU ?_))); (case side4 => exact (jH HO378.out).2.1); rintro e w' ⟨rfl, ⟨nd, rfl⟩⟩; obtain ⟨Ao54, co54, eo54⟩ := Kd.R_slice HO382.out; subst eo54; obtain ⟨Ao55, co55, eo55⟩ := Kd.R_slice HO386.out; subst eo55) | (go_at_call 43; (with_reducible refine (laws_likeInts.calls k _ _ t379 _ _ t383 false _ ?side1 ?side2 ?side3 ?side4 A31.out).mono ?_); (case side1 => repeat (first | exact (jH HO382.out).2.2 | (with_reducible refine jP ?_ _) | (with_reducible refine jO ?_ _) | (with_reducible refine jU ?_))); (case side2 => exact (jH HO382.out).2.1); (case side3 => repeat (first | exact (jH HO386.out).2.2 | (with_reducible refine jP ?_ _) | (with_reducible refine jO ?_ _) | (with_reducible refine jU ?_))); (case side4 => exact (jH HO386.out).2.1); rintro e w' ⟨rfl, ⟨nd, rfl⟩⟩))
       go_meet
       case rel => exact ⟨_, (true), zz, H', ⟨by first | omega | exact Nat.le_refl _⟩, ⟨by (with_reducible repeat (first | apply jG | apply jF | apply jK)); exact Kd.R_mono HO370.out (fun _ hk => hk.2)⟩, ⟨by (with_reducible repeat (first | apply jG | apply jF | apply jK)); exact Kd.R_mono HO374.out (fun _ hk => hk.1.2)⟩, ⟨by (with_reducible repeat (first | apply jG | apply jF | apply jK)); exact Kd.R_mono HO382.out (fun _ hk => hk.1.1.2)⟩, ⟨by (with_reducible repeat (first | apply jG | apply jF | apply jK)); exact Kd.R_mono HO390.out (fun _ hk => hk.2)⟩, ⟨zb0 HB⟩⟩
     ·rw [if_neg c30] at H
      have c30b0 : (t380 == t384) = false := beq_eq_false_iff_ne.mpr c30
      have c30b1 : (t380 != t384) = true := bne_iff_ne.mpr c30
      have H' := jA H
      clear H
      obtain ⟨Ao56, co56, eo56⟩ := Kd.R_slice HO374.out
      subst eo56
      obtain ⟨Ao57, co57, eo57⟩ := Kd.R_slice HO378.out
      subst eo57
      go_wp2_with (first | (go_at_call 43; (with_reducible refine (laws_likeInts.calls k _ _ t371 _ _ t375 true _ ?side1 ?side2 ?side3 ?side4 A28.out).mono ?_); (case side1 => repeat (first | exact (jH HO374.out).2.2 | (with_reducible refine jP ?_ _) | (with_reducible refine jO ?_ _) | (with_reducible refine jU ?_))); (case side2 => exact (jH HO374.out).2.1); (case side3 => repeat (first | exact (jH HO378.out).2.2 | (with_reducible refine jP ?_ _) | (with_reducible refine jO ?_ _) | (with_reducible refine jU ?_))); (case side4 => exact (jH HO378.out).2.1); rintro e w' ⟨rfl, ⟨nd, rfl⟩⟩))
      go_meet
      case rel => exact ⟨_, (true), zz, H', ⟨by first | omega | exact Nat.le_refl _⟩, ⟨by (with_reducible repeat (first | apply jG | apply jF | apply jK)); exact Kd.R_mono HO370.out (fun _ hk => hk.2)⟩, ⟨by (with_reducible repeat (first | apply jG | apply jF | apply jK)); exact Kd.R_mono HO374.out (fun _ hk => hk.1.2)⟩, ⟨by (with_reducible repeat (first | apply jG | apply jF | apply jK)); exact Kd.R_mono HO382.out (fun _ hk => hk.1.1.2)⟩, ⟨by (with_reducible repeat (first | apply jG | apply jF | apply jK)); exact Kd.R_mono HO390.out (fun _ hk => hk.2)⟩, ⟨zb0 HB⟩⟩
    ·replace c29 := Bool.eq_false_iff.mpr c29
     subst c29
     have H1 : (laws_FnCueStates.j0 k t367 t368 t371 t372 t379 t380 t387 t388 t391 t392 t395 t396 true) = some r := by rw [if_neg (show ¬ (false = true) by decide)] at H; exact H
     clear H
     have H := H1
     clear H1
     have H' := jA H
     clear H
     obtain ⟨Ao58, co58, eo58⟩ := Kd.R_slice HO374.out
     subst eo58
     obtain ⟨Ao59, co59, eo59⟩ := Kd.R_slice HO378.out
     subst eo59
     go_wp2_with (first | (go_at_call 43; (with_reducible refine (laws_likeInts.calls k _ _ t371 _ _ t375 false _ ?side1 ?side2 ?side3 ?side4 A28.out).mono ?_); (case side1 => repeat (first | exact (jH HO374.out).2.2 | (with_reducible refine jP ?_ _) | (with_reducible refine jO ?_ _) | (with_reducible refine jU ?_))); (case side2 => exact (jH HO374.out).2.1); (case side3 => repeat (first | exact (jH HO378.out).2.2 | (with_reducible refine jP ?_ _) | (with_reducible refine jO ?_ _) | (with_reducible refine jU ?_))); (case side4 => exact (jH HO378.out).2.1); rintro e w' ⟨rfl, ⟨nd, rfl⟩⟩))
     go_meet
     case rel => exact ⟨_, (true), zz, H', ⟨by first | omega | exact Nat.le_refl _⟩, ⟨by (with_reducible repeat (first | apply jG | apply jF | apply jK)); exact Kd.R_mono HO370.out (fun _ hk => hk.2)⟩, ⟨by (with_reducible repeat (first | apply jG | apply jF | apply jK)); exact Kd.R_mono HO374.out (fun _ hk => hk.1.2)⟩, ⟨by (with_reducible repeat (first | apply jG | apply jF | apply jK)); exact Kd.R_mono HO382.out (fun _ hk => hk.1.1.2)⟩, ⟨by (with_reducible repeat (first | apply jG | apply jF | apply jK)); exact Kd.R_mono HO390.out (fun _ hk => hk.2)⟩, ⟨zb0 HB⟩⟩
   ·rw [if_neg c27] at H
    have c27b0 : (t372 == t376) = false := beq_eq_false_iff_ne.mpr c27
    have c27b1 : (t372 != t376) = true := bne_iff_ne.mpr c27
    (first | rw [c27b0] | (simp only [i64_w, i32_w]; rw [c27b0]) | skip)
    have H' := jA H
    clear H
    go_wp2
    go_meet
    case rel => exact ⟨_, (true), zz, H', ⟨by first | omega | exact Nat.le_refl _⟩, ⟨by (with_reducible repeat (first | apply jG | apply jF | apply jK)); exact Kd.R_mono HO370.out (fun _ hk => hk.2)⟩, ⟨by (with_reducible repeat (first | apply jG | apply jF | apply jK)); exact Kd.R_mono HO374.out (fun _ hk => hk.1.2)⟩, ⟨by (with_reducible repeat (first | apply jG | apply jF | apply jK)); exact Kd.R_mono HO382.out (fun _ hk => hk.1.1.2)⟩, ⟨by (with_reducible repeat (first | apply jG | apply jF | apply jK)); exact Kd.R_mono HO390.out (fun _ hk => hk.2)⟩, ⟨zb0 HB⟩⟩
  case rest =>
   clear HC14
   try clear c1
   try clear c2
   try clear p2
   try clear c3
   try clear c4
   try clear c12
   try clear c18
   try clear c19
   try clear c20
   try clear c21
   try clear c27
   try clear c27b0
   try clear c27b1
   try clear c29
   try clear c30
   try clear c30b0
   try clear c30b1
   try clear c32
   try clear c33
   try clear c33b0
   try clear c33b1
   try clear c34
   try clear c34b0
   try clear c34b1
   try clear c35
   try clear c35b0
   try clear c35b1
   try clear c36
   try clear c37
   try clear c38
   try clear c39
   try clear c44
   try clear c45
   obtain ⟨kq, x131_13, rfl, HA, HJ13, HO_3, HO_5, HO_9, HO_13, HB⟩ := hcut
   cases kq with
   | zero => exact absurd HA.out (by simp [laws_FnCueStates.j0])
   | succ kj13 =>
    have H := HA.out
    clear HA
    simp only [laws_FnCueStates.j0] at H
    by_cases c60 : x131_13 = true
    ·subst c60
     have H1 : (some false) = some r := by rw [if_pos rfl] at H; exact H
     clear H
     have H := H1
     clear H1
     obtain rfl := jV H
     go_wp2
     go_ret
     exact ⟨by first | rfl | (simp [errW_none, errW_some] <;> rfl) | (simp [*, errW_none, errW_some] <;> rfl), zb0 HB⟩
    ·as_aux_lemma =>
     replace c60 := Bool.eq_false_iff.mpr c60
     subst c60
     have H1 : (if t392 = 0 then ((impl_TriesOf.f kj13 t387 t388).bind fun bt401 => ((spec_TriesOf.f kj13 t387 t388).bind fun bt405 => (if bt401.2 = bt405.2 then ((laws_likeInts.f kj13 bt401.1 bt405.1).bind fun t409 => (laws_FnCueStates.j1 kj13 t367 t368 t371 t372 t379 t380 t391 t395 t396 bt401.1 bt401.2 (!t409))) else (laws_FnCueStates.j1 kj13 t367 t368 t371 t372 t379 t380 t391 t395 t396 bt401.1 bt401.2 true)))) else (laws_FnCueStates.j2 kj13 t367 t368 t371 t372 t379 t380)) = some r := by rw [if_neg (show ¬ (false = true) by decide)] at H; exact H
     clear H
     have H := H1
     clear H1
     have HC61 := jA H
     clear H
     go_upto_if 133 with (fail)
     go_cut [] (fun wc => ∃ (kq : Nat), Aside0 (laws_FnCueStates.j2 kq t367 t368 t371 t372 t379 t380 = some r) ∧ Aside0 (kq ≤ kj13) ∧ Aside0 (Kd.R k36 36 wc w.heap.size (fun _ => True) (.slice Ao16 t367.length co16) t367) ∧ Aside0 (Kd.R (Kd.int .i64) 2 wc w.heap.size (fun k_ => some k_ ≠ (v381 : Value).ownBlock) v373 t371) ∧ Aside0 (Kd.R (Kd.int .i64) 2 wc w.heap.size (fun k_ => some k_ ≠ (v373 : Value).ownBlock) v381 t379) ∧ Aside0 (Below w.heap.size w wc))
     case first =>
      have H := HC61.out
      clear HC61
      by_cases c62 : t392 = 0
      ·as_aux_lemma =>
       rw [if_pos c62] at H
       have c62b0 : (t392 == 0) = true := beq_iff_eq.mpr c62
       have c62b1 : (t392 != 0) = false := bne_eq_false_iff_eq.mpr c62
       clear c62
       (first | rw [c62b0] | (simp only [i64_w, i32_w]; rw [c62b0]) | skip)
       replace H := jD.mp H
       obtain ⟨⟨t401, t402⟩, A630, H⟩ := H
       replace H : ((spec_TriesOf.f kj13 t387 t388).bind fun bt405 => (if t402 = bt405.2 then ((laws_likeInts.f kj13 t401 bt405.1).bind fun t409 => (laws_FnCueStates.j1 kj13 t367 t368 t371 t372 t379 t380 t391 t395 t396 t401 t402 (!t409))) else (laws_FnCueStates.j1 kj13 t367 t368 t371 t372 t379 t380 t391 t395 t396 t401 t402 true))) = some r := H
       have A63 := jA A630
       clear A630
       replace H := jD.mp H
       obtain ⟨⟨t405, t406⟩, A640, H⟩ := H
       replace H : (if t402 = t406 then ((laws_likeInts.f kj13 t401 t405).bind fun t409 => (laws_FnCueStates.j1 kj13 t367 t368 t371 t372 t379 t380 t391 t395 t396 t401 t402 (!t409))) else (laws_FnCueStates.j1 kj13 t367 t368 t371 t372 t379 t380 t391 t395 t396 t401 t402 true)) = some r := H
       have A64 := jA A640
       clear A640
       have HC65 := jA H
       clear H
       go_upto_region 18 with (first | ((with_reducible refine jL (f := 31) rfl ?_); refine goesL_ (some 137) rfl rfl Try.func31 zr rfl #[.slice Ao22 t387.length co22, .int .i64 t388] rfl zm ?_; (with_reducible refine (impl_TriesOf.calls kj13 _ _ t387 t388 t401 t402 _ ?side1 ?side2 A63.out).mono ?_); (case side1 => repeat (first | exact (jH HO_13.out).2.2 | (with_reducible refine jP ?_ _) | (with_reducible refine jO ?_ _) | (with_reducible refine jU ?_))); (case side2 => exact (jH HO_13.out).2.1); rintro e w66 ⟨v403, rfl, ho0, hb⟩; refine ⟨_, rfl, ?_⟩; have n0_ := jA (jX (zo HO_3) hb); have n1_ := jA (Kd.R_elder' (zo HO_5) (Kd.R_base ho0) hb); have n2_ := jA (Kd.R_elder' (zo HO_9) (Kd.R_base ho0) hb); have n3_ := jA (jX (zo HO_13) hb); have n4_ := jA (jZ (Kd.R_new' (Kd.R_new' ho0 (Kd.R_lt (zo HO_5))) (Kd.R_lt (zo HO_9))) (jT (zb0 HB))); have n5_ := jA (jM (zb0 HB) hb); clear HO_3; clear HO_5; clear HO_9; clear HO_13; clear HB; have HO_3 := n0_; have HO_5 := n1_; have HO_9 := n2_; have HO_13 := n3_; have HO404 := n4_; have HB := n5_; clear n0_ n1_ n2_ n3_ n4_ n5_; (try clear hb); (try clear hb2); (try clear hk); (try clear hi); (try clear ho0)) | ((with_reducible refine jL (f := 30) rfl ?_); refine goesL_ (some 143) rfl rfl Try.func30 zr rfl #[.slice Ao22 t387.length co22, .int .i64 t388] rfl zm ?_; (with_reducible refine (spec_TriesOf.calls kj13 _ _ t387 t388 t405 t406 _ ?side1 ?side2 A64.out).mono ?_); (case side1 => repeat (first | exact (jH HO_13.out).2.2 | (with_reducible refine jP ?_ _) | (with_reducible refine jO ?_ _) | (with_reducible refine jU ?_))); (case side2 => exact (jH HO_13.out).2.1); rintro e w67 ⟨v407, rfl, ho0, hb⟩; refine ⟨_, rfl, ?_⟩; have n0_ := jA (jX (zo HO_3) hb); have n1_ := jA (Kd.R_elder' (zo HO_5) (Kd.R_base ho0) hb); have n2_ := jA (Kd.R_elder' (zo HO_9) (Kd.R_base ho0) hb); have n3_ := jA (jX (zo HO_13) hb); have n4_ := jA (Kd.R_elder' (zo HO404) (Kd.R_base ho0) hb); have n5_ := jA (jZ (Kd.R_new' (Kd.R_new' (Kd.R_new' ho0 (Kd.R_lt (zo HO_5))) (Kd.R_lt (zo HO_9))) (Kd.R_lt (zo HO404))) (jT (zb0 HB))); have n6_ := jA (jM (zb0 HB) hb); clear HO_3; clear HO_5; clear HO_9; clear HO_13; clear HO404; clear HB; have HO_3 := n0_; have HO_5 := n1_; have HO_9 := n2_; have HO_13 := n3_; have HO404 := n4_; have HO408 := n5_; have HB := n6_; clear n0_ n1_ n2_ n3_ n4_ n5_ n6_; (try clear hb); (try clear hb2); (try clear hk); (try clear hi); (try clear ho0)))
       (try simp only [Act.put, jB, jI, jJ])
       go_cut [154] (fun v154 wc => ∃ (kq : Nat) (x154_64 : Bool), v154 = .bool x154_64 ∧ Aside0 (laws_FnCueStates.j1 kq t367 t368 t371 t372 t379 t380 t391 t395 t396 t401 t402 x154_64 = some r) ∧ Aside0 (kq ≤ kj13) ∧ Aside0 (Kd.R k36 36 wc w.heap.size (fun _ => True) (.slice Ao16 t367.length co16) t367) ∧ Aside0 (Kd.R (Kd.int .i64) 2 wc w.heap.size (fun k_ => some k_ ≠ (v381 : Value).ownBlock ∧ some k_ ≠ (v403 : Value).ownBlock) v373 t371) ∧ Aside0 (Kd.R (Kd.int .i64) 2 wc w.heap.size (fun k_ => some k_ ≠ (v373 : Value).ownBlock ∧ some k_ ≠ (v403 : Value).ownBlock) v381 t379) ∧ Aside0 (Kd.R (Kd.int .i64) 2 wc w.heap.size (fun k_ => some k_ ≠ (v373 : Value).ownBlock ∧ some k_ ≠ (v381 : Value).ownBlock) v403 t401) ∧ Aside0 (Below w.heap.size w wc))
       case first =>
        have H := HC65.out
        clear HC65
        by_cases c68 : t402 = t406
        ·rw [if_pos c68] at H
         have c68b0 : (t402 == t406) = true := beq_iff_eq.mpr c68
         have c68b1 : (t402 != t406) = false := bne_eq_false_iff_eq.mpr c68
         clear c68
         (first | rw [c68b0] | (simp only [i64_w, i32_w]; rw [c68b0]) | skip)
         replace H := jD.mp H
         obtain ⟨t409, A690, H⟩ := H
         replace H : (laws_FnCueStates.j1 kj13 t367 t368 t371 t372 t379 t380 t391 t395 t396 t401 t402 (!t409)) = some r := H
         have A69 := jA A690
         clear A690
         have H' := jA H
         clear H
         obtain ⟨Ao70, co70, eo70⟩ := Kd.R_slice HO404.out
         subst eo70
         obtain ⟨Ao71, co71, eo71⟩ := Kd.R_slice HO408.out
         subst eo71
         go_wp2_with (first | (go_at_call 43; (with_reducible refine (laws_likeInts.calls kj13 _ _ t401 _ _ t405 t409 _ ?side1 ?side2 ?side3 ?side4 A69.out).mono ?_); (case side1 => repeat (first | exact (jH HO404.out).2.2 | (with_reducible refine jP ?_ _) | (with_reducible refine jO ?_ _) | (with_reducible refine jU ?_))); (case side2 => exact (jH HO404.out).2.1); (case side3 => repeat (first | exact (jH HO408.out).2.2 | (with_reducible refine jP ?_ _) | (with_reducible refine jO ?_ _) | (with_reducible refine jU ?_))); (case side4 => exact (jH HO408.out).2.1); rintro e w' ⟨rfl, ⟨nd, rfl⟩⟩))
         go_meet
         case rel => exact ⟨_, (!t409), zz, H', ⟨by have := HJ13.out; first | omega | exact Nat.le_refl _⟩, ⟨by (with_reducible repeat (first | apply jG | apply jF | apply jK)); exact Kd.R_mono HO_3.out (fun _ hk => trivial)⟩, ⟨by (with_reducible repeat (first | apply jG | apply jF | apply jK)); exact Kd.R_mono HO_5.out (fun _ hk => ⟨hk.1.1, hk.1.2⟩)⟩, ⟨by (with_reducible repeat (first | apply jG | apply jF | apply jK)); exact Kd.R_mono HO_9.out (fun _ hk => ⟨hk.1.1, hk.1.2⟩)⟩, ⟨by (with_reducible repeat (first | apply jG | apply jF | apply jK)); exact Kd.R_mono HO404.out (fun _ hk => ⟨hk.1.1.2, hk.1.2⟩)⟩, ⟨zb0 HB⟩⟩
        ·rw [if_neg c68] at H
         have c68b0 : (t402 == t406) = false := beq_eq_false_iff_ne.mpr c68
         have c68b1 : (t402 != t406) = true := bne_iff_ne.mpr c68
         (first | rw [c68b0] | (simp only [i64_w, i32_w]; rw [c68b0]) | skip)
         have H' := jA H
         clear H
         go_wp2
         go_meet
         case rel => exact ⟨_, (true), zz, H', ⟨by have := HJ13.out; first | omega | exact Nat.le_refl _⟩, ⟨by (with_reducible repeat (first | apply jG | apply jF | apply jK)); exact Kd.R_mono HO_3.out (fun _ hk => trivial)⟩, ⟨by (with_reducible repeat (first | apply jG | apply jF | apply jK)); exact Kd.R_mono HO_5.out (fun _ hk => ⟨hk.1.1, hk.1.2⟩)⟩, ⟨by (with_reducible repeat (first | apply jG | apply jF | apply jK)); exact Kd.R_mono HO_9.out (fun _ hk => ⟨hk.1.1, hk.1.2⟩)⟩, ⟨by (with_reducible repeat (first | apply jG | apply jF | apply jK)); exact Kd.R_mono HO404.out (fun _ hk => ⟨hk.1.1.2, hk.1.2⟩)⟩, ⟨zb0 HB⟩⟩
       case rest =>
        clear HC65
        try clear c1
        try clear c2
        try clear p2
        try clear c3
        try clear c4
        try clear c6
        try clear c12
        try clear c18
        try clear c19
        try clear c20
        try clear c21
        try clear c27
        try clear c27b0
        try clear c27b1
        try clear c29
        try clear c30
        try clear c30b0
        try clear c30b1
        try clear c31
        try clear c32
        try clear c33
        try clear c33b0
        try clear c33b1
        try clear c34
        try clear c34b0
        try clear c34b1
        try clear c35
        try clear c35b0
        try clear c35b1
        try clear c36
        try clear c37
        try clear c38
        try clear c39
        try clear c44
        try clear c45
        try clear c60
        try clear c62
        try clear c62b0
        try clear c62b1
        try clear c68
        try clear c68b0
        try clear c68b1
        try clear p2
        obtain ⟨kq, x154_64, rfl, HA, HJ64, HO_3, HO_5, HO_9, HO_23, HB⟩ := hcut
        cases kq with
        | zero => exact absurd HA.out (by simp [laws_FnCueStates.j1])
        | succ kj64 =>
         have H := HA.out
         clear HA
         simp only [laws_FnCueStates.j1] at H
         by_cases c72 : x154_64 = true
         ·subst c72
          have H1 : (some false) = some r := by rw [if_pos rfl] at H; exact H
          clear H
          have H := H1
          clear H1
          obtain rfl := jV H
          go_wp2
          go_ret
          exact ⟨by first | rfl | (simp [errW_none, errW_some] <;> rfl) | (simp [*, errW_none, errW_some] <;> rfl), zb0 HB⟩
         ·as_aux_lemma =>
          replace c72 := Bool.eq_false_iff.mpr c72
          subst c72
          have H1 : (if t402 = 0 then (if ((t391 == 2) != (t396 == 0)) = true then (some false) else (if ((t391 == 0) != ((t401.length : Int) == 0)) = true then (some false) else (if t391 = 3 then (if (t401.length : Int) = 3 then (if t396 = 0 then (if 0 ≤ (wrap64 ((t401.length : Int) - 1)) then (if (wrap64 ((t401.length : Int) - 1)) < (t401.length : Int) then (if (rd t401 (wrap64 ((t401.length : Int) - 1))) = t395 then (laws_FnCueStates.j2 kj64 t367 t368 t371 t372 t379 t380) else (some false)) else (none)) else (none)) else (laws_FnCueStates.j2 kj64 t367 t368 t371 t372 t379 t380)) else (some false)) else (if t396 = 0 then (if 0 ≤ (wrap64 ((t401.length : Int) - 1)) then (if (wrap64 ((t401.length : Int) - 1)) < (t401.length : Int) then (if (rd t401 (wrap64 ((t401.length : Int) - 1))) = t395 then (laws_FnCueStates.j2 kj64 t367 t368 t371 t372 t379 t380) else (some false)) else (none)) else (none)) else (laws_FnCueStates.j2 kj64 t367 t368 t371 t372 t379 t380))))) else (some false)) = some r := by rw [if_neg (show ¬ (false = true) by decide)] at H; exact H
          clear H
          have H := H1
          clear H1
          by_cases c73 : t402 = 0
          ·as_aux_lemma =>
           rw [if_pos c73] at H
           have c73b0 : (t402 == 0) = true := beq_iff_eq.mpr c73
           have c73b1 : (t402 != 0) = false := bne_eq_false_iff_eq.mpr c73
           clear c73
           by_cases c74 : ((t391 == 2) != (t396 == 0)) = true
           ·rw [if_pos c74] at H
            have c74b0 : ((t391 == 2) != (t396 == 0)) = true := c74
            (try (have c74b1 : decide ((t391 == 2) = (t396 == 0)) = false := by simpa using c74))
            (try (have c74b2 : ((t391 == 2) == (t396 == 0)) = false := by simpa using c74))
            (try (have c74b3 : ¬ ((t391 == 2) = (t396 == 0)) := by simpa using c74))
            clear c74
            obtain rfl := jV H
            go_wp2
            go_ret
            exact ⟨by first | rfl | (simp [errW_none, errW_some] <;> rfl) | (simp [*, errW_none, errW_some] <;> rfl), zb0 HB⟩
           ·as_aux_lemma =>
            rw [if_neg c74] at H
            have c74b0 : ((t391 == 2) != (t396 == 0)) = false := by simpa using c74
            (try (have c74b1 : decide ((t391 == 2) = (t396 == 0)) = true := by simpa using c74))
            (try (have c74b2 : ((t391 == 2) == (t396 == 0)) = true := by simpa using c74))
            clear c74
            by_cases c75 : ((t391 == 0) != ((t401.length : Int) == 0)) = true
            ·rw [if_pos c75] at H
             have c75b0 : ((t391 == 0) != ((t401.length : Int) == 0)) = true := c75
             (try (have c75b1 : decide ((t391 == 0) = ((t401.length : Int) == 0)) = false := by simpa using c75))
             (try (have c75b2 : ((t391 == 0) == ((t401.length : Int) == 0)) = false := by simpa using c75))
             (try (have c75b3 : ¬ ((t391 == 0) = ((t401.length : Int) == 0)) := by simpa using c75))
             clear c75
             obtain rfl := jV H
             obtain ⟨Ao76, co76, eo76⟩ := Kd.R_slice HO_23.out
             subst eo76
             go_wp2
             go_ret
             exact ⟨by first | rfl | (simp [errW_none, errW_some] <;> rfl) | (simp [*, errW_none, errW_some] <;> rfl), zb0 HB⟩
            ·as_aux_lemma =>
             rw [if_neg c75] at H
             have c75b0 : ((t391 == 0) != ((t401.length : Int) == 0)) = false := by simpa using c75
             (try (have c75b1 : decide ((t391 == 0) = ((t401.length : Int) == 0)) = true := by simpa using c75))
             (try (have c75b2 : ((t391 == 0) == ((t401.length : Int) == 0)) = true := by simpa using c75))
             clear c75
             by_cases c77 : t391 = 3
             ·as_aux_lemma =>
              rw [if_pos c77] at H
              have c77b0 : (t391 == 3) = true := beq_iff_eq.mpr c77
              have c77b1 : (t391 != 3) = false := bne_eq_false_iff_eq.mpr c77
              clear c77
              by_cases c78 : (t401.length : Int) = 3
              ·as_aux_lemma =>
               rw [if_pos c78] at H
               have c78b0 : ((t401.length : Int) == 3) = true := beq_iff_eq.mpr c78
               have c78b1 : ((t401.length : Int) != 3) = false := bne_eq_false_iff_eq.mpr c78
               clear c78
               by_cases c79 : t396 = 0
               ·as_aux_lemma =>
                rw [if_pos c79] at H
                have c79b0 : (t396 == 0) = true := beq_iff_eq.mpr c79
                have c79x : (t391 == 2) = true := by have q_ := c74b0; rw [c79b0] at q_; simpa using q_
                have c79b1 : (t396 != 0) = false := bne_eq_false_iff_eq.mpr c79
                clear c79
                obtain ⟨ji80, hji80⟩ : ∃ j_ : Int, (wrap64 ((t401.length : Int) - 1)) = j_ := ⟨_, rfl⟩
                replace H : (if 0 ≤ (ji80) then (if (ji80) < (t401.length : Int) then (if (rd t401 (ji80)) = t395 then (laws_FnCueStates.j2 kj64 t367 t368 t371 t372 t379 t380) else (some false)) else (none)) else (none)) = some r := by first | (rw [hji80] at H; exact H) | (simp only [hji80] at H ⊢; exact H)
                have hji80w : (IntKind.i64.wrap ((t401.length : Int) - 1)) = ji80 := (i64_w _).trans hji80
                by_cases c81 : 0 ≤ (ji80)
                ·as_aux_lemma =>
                 rw [if_pos c81] at H
                 have c81b0 : decide (0 ≤ (ji80)) = true := jN c81
                 clear c81
                 by_cases c82 : (ji80) < (t401.length : Int)
                 ·as_aux_lemma =>
                  rw [if_pos c82] at H
                  have c82b0 : decide ((ji80) < (t401.length : Int)) = true := jN c82
                  clear c82
                  by_cases c83 : (rd t401 (ji80)) = t395
                  ·rw [if_pos c83] at H
                   have c83b0 : ((rd t401 (ji80)) == t395) = true := beq_iff_eq.mpr c83
                   have c83b1 : ((rd t401 (ji80)) != t395) = false := bne_eq_false_iff_eq.mpr c83
                   clear c83
                   have H' := jA H
                   clear H
                   obtain ⟨Ao84, co84, eo84⟩ := Kd.R_slice HO_23.out
                   subst eo84
                   have p410 : 0 ≤ ((ji80) : Int) := jC za
                   have q410 : (ji80) < (t401.length : Int) := jC za
                   obtain ⟨ad410, e410, hx410_0⟩ := Kd.at_int (jH HO_23.out).2.2 (ji80) p410 q410
                   cases e410
                   replace p410 := eq_true p410
                   replace q410 := eq_true q410
                   go_wp2
                   go_meet
                   case rel => exact ⟨_, H', ⟨by have := HJ13.out; have := HJ64.out; first | omega | exact Nat.le_refl _⟩, ⟨by (with_reducible repeat (first | apply jG | apply jF | apply jK)); exact HO_3.out⟩, ⟨by (with_reducible repeat (first | apply jG | apply jF | apply jK)); exact Kd.R_mono HO_5.out (fun _ hk => hk.1)⟩, ⟨by (with_reducible repeat (first | apply jG | apply jF | apply jK)); exact Kd.R_mono HO_9.out (fun _ hk => hk.1)⟩, ⟨zb0 HB⟩⟩
                  ·rw [if_neg c83] at H
                   have c83b0 : ((rd t401 (ji80)) == t395) = false := beq_eq_false_iff_ne.mpr c83
                   have c83b1 : ((rd t401 (ji80)) != t395) = true := bne_iff_ne.mpr c83
                   obtain rfl := jV H
                   obtain ⟨Ao85, co85, eo85⟩ := Kd.R_slice HO_23.out
                   subst eo85
                   have p410 : 0 ≤ ((ji80) : Int) := jC za
                   have q410 : (ji80) < (t401.length : Int) := jC za
                   obtain ⟨ad410, e410, hx410_0⟩ := Kd.at_int (jH HO_23.out).2.2 (ji80) p410 q410
                   cases e410
                   replace p410 := eq_true p410
                   replace q410 := eq_true q410
                   go_wp2
                   go_ret
                   exact ⟨by first | rfl | (simp [errW_none, errW_some] <;> rfl) | (simp only [← hji80]; first | rfl | (simp [errW_none, errW_some] <;> rfl)) | (simp [*, errW_none, errW_some] <;> rfl), zb0 HB⟩
                 ·rw [if_neg c82] at H
                  exact absurd H (by simp)
                ·rw [if_neg c81] at H
                 exact absurd H (by simp)
               ·rw [if_neg c79] at H
                have c79b0 : (t396 == 0) = false := beq_eq_false_iff_ne.mpr c79
                have c79x : (t391 == 2) = false := by have q_ := c74b0; rw [c79b0] at q_; simpa using q_
                have c79b1 : (t396 != 0) = true := bne_iff_ne.mpr c79
                have H' := jA H
                clear H
                obtain ⟨Ao86, co86, eo86⟩ := Kd.R_slice HO_23.out
                subst eo86
                go_wp2
                go_meet
                case rel => exact ⟨_, H', ⟨by have := HJ13.out; have := HJ64.out; first | omega | exact Nat.le_refl _⟩, ⟨by (with_reducible repeat (first | apply jG | apply jF | apply jK)); exact HO_3.out⟩, ⟨by (with_reducible repeat (first | apply jG | apply jF | apply jK)); exact Kd.R_mono HO_5.out (fun _ hk => hk.1)⟩, ⟨by (with_reducible repeat (first | apply jG | apply jF | apply jK)); exact Kd.R_mono HO_9.out (fun _ hk => hk.1)⟩, ⟨zb0 HB⟩⟩
              ·rw [if_neg c78] at H
               have c78b0 : ((t401.length : Int) == 3) = false := beq_eq_false_iff_ne.mpr c78
               have c78b1 : ((t401.length : Int) != 3) = true := bne_iff_ne.mpr c78
               obtain rfl := jV H
               obtain ⟨Ao87, co87, eo87⟩ := Kd.R_slice HO_23.out
               subst eo87
               go_wp2
               go_ret
               exact ⟨by first | rfl | (simp [errW_none, errW_some] <;> rfl) | (simp [*, errW_none, errW_some] <;> rfl), zb0 HB⟩
             ·as_aux_lemma =>
              rw [if_neg c77] at H
              have c77b0 : (t391 == 3) = false := beq_eq_false_iff_ne.mpr c77
              have c77b1 : (t391 != 3) = true := bne_iff_ne.mpr c77
              by_cases c88 : t396 = 0
              ·as_aux_lemma =>
               rw [if_pos c88] at H
               have c88b0 : (t396 == 0) = true := beq_iff_eq.mpr c88
               have c88x : (t391 == 2) = true := by have q_ := c74b0; rw [c88b0] at q_; simpa using q_
               have c88b1 : (t396 != 0) = false := bne_eq_false_iff_eq.mpr c88
               clear c88
               obtain ⟨ji89, hji89⟩ : ∃ j_ : Int, (wrap64 ((t401.length : Int) - 1)) = j_ := ⟨_, rfl⟩
               replace H : (if 0 ≤ (ji89) then (if (ji89) < (t401.length : Int) then (if (rd t401 (ji89)) = t395 then (laws_FnCueStates.j2 kj64 t367 t368 t371 t372 t379 t380) else (some false)) else (none)) else (none)) = some r := by first | (rw [hji89] at H; exact H) | (simp only [hji89] at H ⊢; exact H)
               have hji89w : (IntKind.i64.wrap ((t401.length : Int) - 1)) = ji89 := (i64_w _).trans hji89
               by_cases c90 : 0 ≤ (ji89)
               ·as_aux_lemma =>
                rw [if_pos c90] at H
                have c90b0 : decide (0 ≤ (ji89)) = true := jN c90
                clear c90
                by_cases c91 : (ji89) < (t401.length : Int)
                ·as_aux_lemma =>
                 rw [if_pos c91] at H
                 have c91b0 : decide ((ji89) < (t401.length : Int)) = true := jN c91
                 clear c91
                 by_cases c92 : (rd t401 (ji89)) = t395
                 ·rw [if_pos c92] at H
                  have c92b0 : ((rd t401 (ji89)) == t395) = true := beq_iff_eq.mpr c92
                  have c92b1 : ((rd t401 (ji89)) != t395) = false := bne_eq_false_iff_eq.mpr c92
                  clear c92
                  have H' := jA H
                  clear H
                  obtain ⟨Ao93, co93, eo93⟩ := Kd.R_slice HO_23.out
                  subst eo93
                  have p411 : 0 ≤ ((ji89) : Int) := jC za
                  have q411 : (ji89) < (t401.length : Int) := jC za
                  obtain ⟨ad411, e411, hx411_0⟩ := Kd.at_int (jH HO_23.out).2.2 (ji89) p411 q411
                  cases e411
                  replace p411 := eq_true p411
                  replace q411 := eq_true q411
                  go_wp2
                  go_meet
                  case rel => exact ⟨_, H', ⟨by have := HJ13.out; have := HJ64.out; first | omega | exact Nat.le_refl _⟩, ⟨by (with_reducible repeat (first | apply jG | apply jF | apply jK)); exact HO_3.out⟩, ⟨by (with_reducible repeat (first | apply jG | apply jF | apply jK)); exact Kd.R_mono HO_5.out (fun _ hk => hk.1)⟩, ⟨by (with_reducible repeat (first | apply jG | apply jF | apply jK)); exact Kd.R_mono HO_9.out (fun _ hk => hk.1)⟩, ⟨zb0 HB⟩⟩
                 ·rw [if_neg c92] at H
                  have c92b0 : ((rd t401 (ji89)) == t395) = false := beq_eq_false_iff_ne.mpr c92
                  have c92b1 : ((rd t401 (ji89)) != t395) = true := bne_iff_ne.mpr c92
                  obtain rfl := jV H
                  obtain ⟨Ao94, co94, eo94⟩ := Kd.R_slice HO_23.out
                  subst eo94
                  have p411 : 0 ≤ ((ji89) : Int) := jC za
                  have q411 : (ji89) < (t401.length : Int) := jC za
                  obtain ⟨ad411, e411, hx411_0⟩ := Kd.at_int (jH HO_23.out).2.2 (ji89) p411 q411
                  cases e411
                  replace p411 := eq_true p411
                  replace q411 := eq_true q411
                  go_wp2
                  go_ret
                  exact ⟨by first | rfl | (simp [errW_none, errW_some] <;> rfl) | (simp only [← hji89]; first | rfl | (simp [errW_none, errW_some] <;> rfl)) | (simp [*, errW_none, errW_some] <;> rfl), zb0 HB⟩
                ·rw [if_neg c91] at H
                 exact absurd H (by simp)
               ·rw [if_neg c90] at H
                exact absurd H (by simp)
              ·rw [if_neg c88] at H
               have c88b0 : (t396 == 0) = false := beq_eq_false_iff_ne.mpr c88
               have c88x : (t391 == 2) = false := by have q_ := c74b0; rw [c88b0] at q_; simpa using q_
               have c88b1 : (t396 != 0) = true := bne_iff_ne.mpr c88
               have H' := jA H
               clear H
               obtain ⟨Ao95, co95, eo95⟩ := Kd.R_slice HO_23.out
               subst eo95
               go_wp2
               go_meet
               case rel => exact ⟨_, H', ⟨by have := HJ13.out; have := HJ64.out; first | omega | exact Nat.le_refl _⟩, ⟨by (with_reducible repeat (first | apply jG | apply jF | apply jK)); exact HO_3.out⟩, ⟨by (with_reducible repeat (first | apply jG | apply jF | apply jK)); exact Kd.R_mono HO_5.out (fun _ hk => hk.1)⟩, ⟨by (with_reducible repeat (first | apply jG | apply jF | apply jK)); exact Kd.R_mono HO_9.out (fun _ hk => hk.1)⟩, ⟨zb0 HB⟩⟩
          ·rw [if_neg c73] at H
           have c73b0 : (t402 == 0) = false := beq_eq_false_iff_ne.mpr c73
           have c73b1 : (t402 != 0) = true := bne_iff_ne.mpr c73
           obtain rfl := jV H
           go_wp2
           go_ret
           exact ⟨by first | rfl | (simp [errW_none, errW_some] <;> rfl) | (simp [*, errW_none, errW_some] <;> rfl), zb0 HB⟩
      ·rw [if_neg c62] at H
       have c62b0 : (t392 == 0) = false := beq_eq_false_iff_ne.mpr c62
       have c62b1 : (t392 != 0) = true := bne_iff_ne.mpr c62
       (first | rw [c62b0] | (simp only [i64_w, i32_w]; rw [c62b0]) | skip)
       have H' := jA H
       clear H
       go_wp2
       go_meet
       case rel => exact ⟨_, H', ⟨by have := HJ13.out; first | omega | exact Nat.le_refl _⟩, ⟨by (with_reducible repeat (first | apply jG | apply jF | apply jK)); exact Kd.R_mono HO_3.out (fun _ hk => trivial)⟩, ⟨by (with_reducible repeat (first | apply jG | apply jF | apply jK)); exact HO_5.out⟩, ⟨by (with_reducible repeat (first | apply jG | apply jF | apply jK)); exact HO_9.out⟩, ⟨zb0 HB⟩⟩
     case rest =>
      clear HC61
      try clear c1
      try clear c2
      try clear p2
      try clear c3
      try clear c4
      try clear p4
      try clear q4
      try clear hx4
      try clear c6
      try clear p6
      try clear c7
      try clear c8
      try clear c9
      try clear c12
      try clear c18
      try clear c19
      try clear c20
      try clear c21
      try clear c27
      try clear c27b0
      try clear c27b1
      try clear c29
      try clear c30
      try clear c30b0
      try clear c30b1
      try clear c31
      try clear c32
      try clear c33
      try clear c33b0
      try clear c33b1
      try clear c34
      try clear c34b0
      try clear c34b1
      try clear c35
      try clear c35b0
      try clear c35b1
      try clear c36
      try clear c37
      try clear c38
      try clear c39
      try clear p41
      try clear q41
      try clear hx41
      try clear c44
      try clear c45
      try clear c60
      try clear c62
      try clear c62b0
      try clear c62b1
      try clear p64
      try clear c68
      try clear c68b0
      try clear c68b1
      try clear c72
      try clear c73
      try clear c73b0
      try clear c73b1
      try clear c74
      try clear c74b0
      try clear c74b1
      try clear c74b2
      try clear c75
      try clear c75b0
      try clear c75b1
      try clear c75b2
      try clear c77
      try clear c77b0
      try clear c77b1
      try clear c78
      try clear c78b0
      try clear c78b1
      try clear c79
      try clear c79b0
      try clear c79b1
      try clear c81
      try clear c81b0
      try clear c82
      try clear c82b0
      try clear c83
      try clear c83b0
      try clear c83b1
      try clear c88
      try clear c88b0
      try clear c88b1
      try clear c90
      try clear c90b0
      try clear c91
      try clear c91b0
      try clear c92
      try clear c92b0
      try clear c92b1
      try clear hx410_0
      try clear hx411_0
      try clear p2
      try clear p410
      try clear p411
      try clear q410
      try clear q411
      obtain ⟨kq, HA, HJ60, HO_3, HO_5, HO_9, HB⟩ := hcut
      cases kq with
      | zero => exact absurd HA.out (by simp [laws_FnCueStates.j2])
      | succ kj60 =>
       have H := HA.out
       clear HA
       simp only [laws_FnCueStates.j2] at H
       have HC96 := jA H
       clear H
       go_upto_if 196 with (fail)
       go_cut [] (fun wc => ∃ (kq : Nat), Aside0 (laws_FnCueStates.j4 kq t367 t368 t371 t372 = some r) ∧ Aside0 (kq ≤ kj60) ∧ Aside0 (Kd.R k36 36 wc w.heap.size (fun _ => True) (.slice Ao16 t367.length co16) t367) ∧ Aside0 (Kd.R (Kd.int .i64) 2 wc w.heap.size (fun _ => True) v373 t371) ∧ Aside0 (Below w.heap.size w wc))
       case first =>
        have H := HC96.out
        clear HC96
        by_cases c97 : t380 = 0
        ·as_aux_lemma =>
         rw [if_pos c97] at H
         have c97b0 : (t380 == 0) = true := beq_iff_eq.mpr c97
         have c97b1 : (t380 != 0) = false := bne_eq_false_iff_eq.mpr c97
         clear c97
         (first | rw [c97b0] | (simp only [i64_w, i32_w]; rw [c97b0]) | skip)
         have H' := jA H
         clear H
         go_wp2
         go_loopg [27, 28] kj60 (fun kq v27 v28 w' => ∃ (x27_3 : Int) (x28_3 : Int), v27 = .int .i64 x27_3 ∧ v28 = .int .i64 x28_3 ∧ Aside0 (laws_FnCueStates.l0 kq t367 t368 t371 t372 t379 x27_3 x28_3 = some r) ∧ Aside0 (kq ≤ kj60) ∧ Aside0 (Kd.R k36 36 w' w.heap.size (fun _ => True) (.slice Ao16 t367.length co16) t367) ∧ Aside0 (Kd.R (Kd.int .i64) 2 w' w.heap.size (fun k_ => some k_ ≠ (v381 : Value).ownBlock) v373 t371) ∧ Aside0 (Kd.R (Kd.int .i64) 2 w' w.heap.size (fun k_ => some k_ ≠ (v373 : Value).ownBlock) v381 t379) ∧ Aside0 (Below w.heap.size w w'))
         case atStart => exact ⟨(0), (0), zz, zz, H', ⟨Nat.le_refl _⟩, ⟨by (with_reducible repeat (first | apply jG | apply jF | apply jK)); exact HO_3.out⟩, ⟨by (with_reducible repeat (first | apply jG | apply jF | apply jK)); exact HO_5.out⟩, ⟨by (with_reducible repeat (first | apply jG | apply jF | apply jK)); exact HO_9.out⟩, ⟨zb0 HB⟩⟩
         case round =>
          clear H'
          try clear c1
          try clear c2
          try clear p2
          try clear c3
          try clear c4
          try clear p4
          try clear q4
          try clear hx4
          try clear c6
          try clear p6
          try clear c7
          try clear c8
          try clear c9
          try clear c12
          try clear c18
          try clear c19
          try clear c20
          try clear c21
          try clear c27
          try clear c27b0
          try clear c27b1
          try clear c29
          try clear c30
          try clear c30b0
          try clear c30b1
          try clear c31
          try clear c32
          try clear c33
          try clear c33b0
          try clear c33b1
          try clear c34
          try clear c34b0
          try clear c34b1
          try clear c35
          try clear c35b0
          try clear c35b1
          try clear c36
          try clear c37
          try clear c38
          try clear c39
          try clear p41
          try clear q41
          try clear hx41
          try clear c44
          try clear c45
          try clear c60
          try clear c62
          try clear c62b0
          try clear c62b1
          try clear p64
          try clear c68
          try clear c68b0
          try clear c68b1
          try clear c72
          try clear c73
          try clear c73b0
          try clear c73b1
          try clear c74
          try clear c74b0
          try clear c74b1
          try clear c74b2
          try clear c75
          try clear c75b0
          try clear c75b1
          try clear c75b2
          try clear c77
          try clear c77b0
          try clear c77b1
          try clear c78
          try clear c78b0
          try clear c78b1
          try clear c79
          try clear c79b0
          try clear c79b1
          try clear c81
          try clear c81b0
          try clear c82
          try clear c82b0
          try clear c83
          try clear c83b0
          try clear c83b1
          try clear c88
          try clear c88b0
          try clear c88b1
          try clear c90
          try clear c90b0
          try clear c91
          try clear c91b0
          try clear c92
          try clear c92b0
          try clear c92b1
          try clear c97
          try clear c97b0
          try clear c97b1
          try clear hx410_0
          try clear hx411_0
          try clear p2
          try clear p4
          try clear p41
          try clear p410
          try clear p411
          try clear p6
          try clear p64
          try clear q4
          try clear q41
          try clear q410
          try clear q411
          obtain ⟨x27_3, x28_3, rfl, rfl, HA, HK3, HO_3, HO_5, HO_9, HB⟩ := hrel
          cases gk with
          | zero => exact absurd HA.out (by simp [laws_FnCueStates.l0])
          | succ k3 =>
           have H := HA.out
           clear HA
           simp only [laws_FnCueStates.l0] at H
           by_cases c98 : x28_3 ≤ 3
           ·as_aux_lemma =>
            rw [if_pos c98] at H
            have c98b0 : decide (x28_3 ≤ 3) = true := jN c98
            clear c98
            replace H := jD.mp H
            obtain ⟨⟨t412, t413⟩, A990, H⟩ := H
            replace H : (if t413 = 0 then (if x28_3 = 2 then ((laws_sum.f k3 t379).bind fun t416 => (if (t412.length : Int) = t416 then (laws_FnCueStates.l0 k3 t367 t368 t371 t372 t379 (wrap64 (x27_3 + (t412.length : Int))) (wrap64 (x28_3 + 1))) else (some false))) else (laws_FnCueStates.l0 k3 t367 t368 t371 t372 t379 (wrap64 (x27_3 + (t412.length : Int))) (wrap64 (x28_3 + 1)))) else (some false)) = some r := H
            have A99 := jA A990
            clear A990
            by_cases c100 : t413 = 0
            ·as_aux_lemma =>
             rw [if_pos c100] at H
             have c100b0 : (t413 == 0) = true := beq_iff_eq.mpr c100
             have c100b1 : (t413 != 0) = false := bne_eq_false_iff_eq.mpr c100
             clear c100
             by_cases c101 : x28_3 = 2
             ·rw [if_pos c101] at H
              have c101b0 : (x28_3 == 2) = true := beq_iff_eq.mpr c101
              have c101b1 : (x28_3 != 2) = false := bne_eq_false_iff_eq.mpr c101
              clear c101
              replace H := jD.mp H
              obtain ⟨t416, A1020, H⟩ := H
              replace H : (if (t412.length : Int) = t416 then (laws_FnCueStates.l0 k3 t367 t368 t371 t372 t379 (wrap64 (x27_3 + (t412.length : Int))) (wrap64 (x28_3 + 1))) else (some false)) = some r := H
              have A102 := jA A1020
              clear A1020
              by_cases c103 : (t412.length : Int) = t416
              ·rw [if_pos c103] at H
               have c103b0 : ((t412.length : Int) == t416) = true := beq_iff_eq.mpr c103
               have c103b1 : ((t412.length : Int) != t416) = false := bne_eq_false_iff_eq.mpr c103
               clear c103
               have H' := jA H
               clear H
               go_wp2_with (first | ((with_reducible refine jL (f := 38) rfl ?_); refine goesL_ (some 204) rfl rfl Try.func38 zr rfl #[.slice Ao16 t367.length co16, .int .i64 x28_3] rfl zm ?_; (with_reducible refine (impl_CuesIn.calls k3 _ _ t367 x28_3 t412 t413 _ ?side1 ?side2 A99.out).mono ?_); (case side1 => repeat (first | exact (jH HO_3.out).2.2 | (with_reducible refine jP ?_ _) | (with_reducible refine jO ?_ _) | (with_reducible refine jU ?_))); (case side2 => exact (jH HO_3.out).2.1); rintro e w104 ⟨v414, rfl, ho0, hb⟩; refine ⟨_, rfl, ?_⟩; have n0_ := jA (jX (zo HO_3) hb); have n1_ := jA (Kd.R_elder' (zo HO_5) (Kd.R_base ho0) hb); have n2_ := jA (Kd.R_elder' (zo HO_9) (Kd.R_base ho0) hb); have n3_ := jA (jZ (Kd.R_new' (Kd.R_new' ho0 (Kd.R_lt (zo HO_5))) (Kd.R_lt (zo HO_9))) (jT (zb0 HB))); have n4_ := jA (jM (zb0 HB) hb); clear HO_3; clear HO_5; clear HO_9; clear HB; have HO_3 := n0_; have HO_5 := n1_; have HO_9 := n2_; have HO415 := n3_; have HB := n4_; clear n0_ n1_ n2_ n3_ n4_; (try clear hb); (try clear hb2); (try clear hk); (try clear hi); (try clear ho0); obtain ⟨Ao105, co105, eo105⟩ := Kd.R_slice HO415.out; subst eo105; obtain ⟨Ao106, co106, eo106⟩ := Kd.R_slice HO_9.out; subst eo106) | (go_at_call 46; (with_reducible refine (laws_sum.calls k3 _ _ t379 t416 _ ?side1 ?side2 A102.out).mono ?_); (case side1 => repeat (first | exact (jH HO_9.out).2.2 | (with_reducible refine jP ?_ _) | (with_reducible refine jO ?_ _) | (with_reducible refine jU ?_))); (case side2 => exact (jH HO_9.out).2.1); rintro e w' ⟨rfl, ⟨nd, rfl⟩⟩))
               go_roundg k3
               case measure => have := HJ13.out; have := HJ60.out; have := HK3.out; omega
               case rel => exact ⟨(wrap64 (x27_3 + (t412.length : Int))), (wrap64 (x28_3 + 1)), zz, zz, H', ⟨by have := HJ13.out; have := HJ60.out; have := HK3.out; omega⟩, ⟨by (with_reducible repeat (first | apply jG | apply jF | apply jK)); exact HO_3.out⟩, ⟨by (with_reducible repeat (first | apply jG | apply jF | apply jK)); exact Kd.R_mono HO_5.out (fun _ hk => hk.1)⟩, ⟨by (with_reducible repeat (first | apply jG | apply jF | apply jK)); exact Kd.R_mono HO_9.out (fun _ hk => hk.1)⟩, ⟨zb0 HB⟩⟩
              ·rw [if_neg c103] at H
               have c103b0 : ((t412.length : Int) == t416) = false := beq_eq_false_iff_ne.mpr c103
               have c103b1 : ((t412.length : Int) != t416) = true := bne_iff_ne.mpr c103
               obtain rfl := jV H
               go_wp2_with (first | ((with_reducible refine jL (f := 38) rfl ?_); refine goesL_ (some 204) rfl rfl Try.func38 zr rfl #[.slice Ao16 t367.length co16, .int .i64 x28_3] rfl zm ?_; (with_reducible refine (impl_CuesIn.calls k3 _ _ t367 x28_3 t412 t413 _ ?side1 ?side2 A99.out).mono ?_); (case side1 => repeat (first | exact (jH HO_3.out).2.2 | (with_reducible refine jP ?_ _) | (with_reducible refine jO ?_ _) | (with_reducible refine jU ?_))); (case side2 => exact (jH HO_3.out).2.1); rintro e w107 ⟨v414, rfl, ho0, hb⟩; refine ⟨_, rfl, ?_⟩; have n0_ := jA (jX (zo HO_3) hb); have n1_ := jA (Kd.R_elder' (zo HO_5) (Kd.R_base ho0) hb); have n2_ := jA (Kd.R_elder' (zo HO_9) (Kd.R_base ho0) hb); have n3_ := jA (jZ (Kd.R_new' (Kd.R_new' ho0 (Kd.R_lt (zo HO_5))) (Kd.R_lt (zo HO_9))) (jT (zb0 HB))); have n4_ := jA (jM (zb0 HB) hb); clear HO_3; clear HO_5; clear HO_9; clear HB; have HO_3 := n0_; have HO_5 := n1_; have HO_9 := n2_; have HO415 := n3_; have HB := n4_; clear n0_ n1_ n2_ n3_ n4_; (try clear hb); (try clear hb2); (try clear hk); (try clear hi); (try clear ho0); obtain ⟨Ao108, co108, eo108⟩ := Kd.R_slice HO415.out; subst eo108; obtain ⟨Ao109, co109, eo109⟩ := Kd.R_slice HO_9.out; subst eo109) | (go_at_call 46; (with_reducible refine (laws_sum.calls k3 _ _ t379 t416 _ ?side1 ?side2 A102.out).mono ?_); (case side1 => repeat (first | exact (jH HO_9.out).2.2 | (with_reducible refine jP ?_ _) | (with_reducible refine jO ?_ _) | (with_reducible refine jU ?_))); (case side2 => exact (jH HO_9.out).2.1); rintro e w' ⟨rfl, ⟨nd, rfl⟩⟩))
               go_ret
               exact ⟨by first | rfl | (simp [errW_none, errW_some] <;> rfl) | (simp [*, errW_none, errW_some] <;> rfl), zb0 HB⟩
             ·rw [if_neg c101] at H
              have c101b0 : (x28_3 == 2) = false := beq_eq_false_iff_ne.mpr c101
              have c101b1 : (x28_3 != 2) = true := bne_iff_ne.mpr c101
              have H' := jA H
              clear H
              go_wp2_with (first | ((with_reducible refine jL (f := 38) rfl ?_); refine goesL_ (some 204) rfl rfl Try.func38 zr rfl #[.slice Ao16 t367.length co16, .int .i64 x28_3] rfl zm ?_; (with_reducible refine (impl_CuesIn.calls k3 _ _ t367 x28_3 t412 t413 _ ?side1 ?side2 A99.out).mono ?_); (case side1 => repeat (first | exact (jH HO_3.out).2.2 | (with_reducible refine jP ?_ _) | (with_reducible refine jO ?_ _) | (with_reducible refine jU ?_))); (case side2 => exact (jH HO_3.out).2.1); rintro e w110 ⟨v414, rfl, ho0, hb⟩; refine ⟨_, rfl, ?_⟩; have n0_ := jA (jX (zo HO_3) hb); have n1_ := jA (Kd.R_elder' (zo HO_5) (Kd.R_base ho0) hb); have n2_ := jA (Kd.R_elder' (zo HO_9) (Kd.R_base ho0) hb); have n3_ := jA (jZ (Kd.R_new' (Kd.R_new' ho0 (Kd.R_lt (zo HO_5))) (Kd.R_lt (zo HO_9))) (jT (zb0 HB))); have n4_ := jA (jM (zb0 HB) hb); clear HO_3; clear HO_5; clear HO_9; clear HB; have HO_3 := n0_; have HO_5 := n1_; have HO_9 := n2_; have HO415 := n3_; have HB := n4_; clear n0_ n1_ n2_ n3_ n4_; (try clear hb); (try clear hb2); (try clear hk); (try clear hi); (try clear ho0); obtain ⟨Ao111, co111, eo111⟩ := Kd.R_slice HO415.out; subst eo111))
              go_roundg k3
              case measure => have := HJ13.out; have := HJ60.out; have := HK3.out; omega
              case rel => exact ⟨(wrap64 (x27_3 + (t412.length : Int))), (wrap64 (x28_3 + 1)), zz, zz, H', ⟨by have := HJ13.out; have := HJ60.out; have := HK3.out; omega⟩, ⟨by (with_reducible repeat (first | apply jG | apply jF | apply jK)); exact HO_3.out⟩, ⟨by (with_reducible repeat (first | apply jG | apply jF | apply jK)); exact Kd.R_mono HO_5.out (fun _ hk => hk.1)⟩, ⟨by (with_reducible repeat (first | apply jG | apply jF | apply jK)); exact Kd.R_mono HO_9.out (fun _ hk => hk.1)⟩, ⟨zb0 HB⟩⟩
            ·rw [if_neg c100] at H
             have c100b0 : (t413 == 0) = false := beq_eq_false_iff_ne.mpr c100
             have c100b1 : (t413 != 0) = true := bne_iff_ne.mpr c100
             obtain rfl := jV H
             go_wp2_with (first | ((with_reducible refine jL (f := 38) rfl ?_); refine goesL_ (some 204) rfl rfl Try.func38 zr rfl #[.slice Ao16 t367.length co16, .int .i64 x28_3] rfl zm ?_; (with_reducible refine (impl_CuesIn.calls k3 _ _ t367 x28_3 t412 t413 _ ?side1 ?side2 A99.out).mono ?_); (case side1 => repeat (first | exact (jH HO_3.out).2.2 | (with_reducible refine jP ?_ _) | (with_reducible refine jO ?_ _) | (with_reducible refine jU ?_))); (case side2 => exact (jH HO_3.out).2.1); rintro e w112 ⟨v414, rfl, ho0, hb⟩; refine ⟨_, rfl, ?_⟩; have n0_ := jA (jX (zo HO_3) hb); have n1_ := jA (Kd.R_elder' (zo HO_5) (Kd.R_base ho0) hb); have n2_ := jA (Kd.R_elder' (zo HO_9) (Kd.R_base ho0) hb); have n3_ := jA (jZ (Kd.R_new' (Kd.R_new' ho0 (Kd.R_lt (zo HO_5))) (Kd.R_lt (zo HO_9))) (jT (zb0 HB))); have n4_ := jA (jM (zb0 HB) hb); clear HO_3; clear HO_5; clear HO_9; clear HB; have HO_3 := n0_; have HO_5 := n1_; have HO_9 := n2_; have HO415 := n3_; have HB := n4_; clear n0_ n1_ n2_ n3_ n4_; (try clear hb); (try clear hb2); (try clear hk); (try clear hi); (try clear ho0)))
             go_ret
             exact ⟨by first | rfl | (simp [errW_none, errW_some] <;> rfl) | (simp [*, errW_none, errW_some] <;> rfl), zb0 HB⟩
           ·rw [if_neg c98] at H
            have c98b0 : decide (x28_3 ≤ 3) = false := jd c98
            clear c98
            by_cases c113 : x27_3 = 20
            ·rw [if_pos c113] at H
             have c113b0 : (x27_3 == 20) = true := beq_iff_eq.mpr c113
             have c113b1 : (x27_3 != 20) = false := bne_eq_false_iff_eq.mpr c113
             clear c113
             have H' := jA H
             clear H
             go_wp2
             go_meet
             case rel => exact ⟨_, H', ⟨by have := HJ13.out; have := HJ60.out; have := HK3.out; first | omega | exact Nat.le_refl _⟩, ⟨by (with_reducible repeat (first | apply jG | apply jF | apply jK)); exact HO_3.out⟩, ⟨by (with_reducible repeat (first | apply jG | apply jF | apply jK)); exact Kd.R_mono HO_5.out (fun _ hk => trivial)⟩, ⟨zb0 HB⟩⟩
            ·rw [if_neg c113] at H
             have c113b0 : (x27_3 == 20) = false := beq_eq_false_iff_ne.mpr c113
             have c113b1 : (x27_3 != 20) = true := bne_iff_ne.mpr c113
             obtain rfl := jV H
             go_wp2
             go_ret
             exact ⟨by first | rfl | (simp [errW_none, errW_some] <;> rfl) | (simp [*, errW_none, errW_some] <;> rfl), zb0 HB⟩
        ·rw [if_neg c97] at H
         have c97b0 : (t380 == 0) = false := beq_eq_false_iff_ne.mpr c97
         have c97b1 : (t380 != 0) = true := bne_iff_ne.mpr c97
         (first | rw [c97b0] | (simp only [i64_w, i32_w]; rw [c97b0]) | skip)
         have H' := jA H
         clear H
         go_wp2
         go_meet
         case rel => exact ⟨_, H', ⟨by have := HJ13.out; have := HJ60.out; first | omega | exact Nat.le_refl _⟩, ⟨by (with_reducible repeat (first | apply jG | apply jF | apply jK)); exact HO_3.out⟩, ⟨by (with_reducible repeat (first | apply jG | apply jF | apply jK)); exact Kd.R_mono HO_5.out (fun _ hk => trivial)⟩, ⟨zb0 HB⟩⟩
       case rest =>
        clear HC96
        try clear c1
        try clear c2
        try clear p2
        try clear c3
        try clear c4
        try clear p4
        try clear q4
        try clear hx4
        try clear c6
        try clear p6
        try clear c7
        try clear c8
        try clear c9
        try clear c10
        try clear c11
        try clear c12
        try clear c18
        try clear c19
        try clear c20
        try clear c21
        try clear c27
        try clear c27b0
        try clear c27b1
        try clear c29
        try clear c30
        try clear c30b0
        try clear c30b1
        try clear c31
        try clear c32
        try clear c33
        try clear c33b0
        try clear c33b1
        try clear c34
        try clear c34b0
        try clear c34b1
        try clear c35
        try clear c35b0
        try clear c35b1
        try clear c36
        try clear c37
        try clear c38
        try clear c39
        try clear p41
        try clear q41
        try clear hx41
        try clear c44
        try clear c45
        try clear c60
        try clear c62
        try clear c62b0
        try clear c62b1
        try clear p64
        try clear c68
        try clear c68b0
        try clear c68b1
        try clear c72
        try clear c73
        try clear c73b0
        try clear c73b1
        try clear c74
        try clear c74b0
        try clear c74b1
        try clear c74b2
        try clear c75
        try clear c75b0
        try clear c75b1
        try clear c75b2
        try clear c77
        try clear c77b0
        try clear c77b1
        try clear c78
        try clear c78b0
        try clear c78b1
        try clear c79
        try clear c79b0
        try clear c79b1
        try clear c81
        try clear c81b0
        try clear c82
        try clear c82b0
        try clear c83
        try clear c83b0
        try clear c83b1
        try clear c88
        try clear c88b0
        try clear c88b1
        try clear c90
        try clear c90b0
        try clear c91
        try clear c91b0
        try clear c92
        try clear c92b0
        try clear c92b1
        try clear c97
        try clear c97b0
        try clear c97b1
        try clear c98
        try clear c98b0
        try clear c100
        try clear c100b0
        try clear c100b1
        try clear c101
        try clear c101b0
        try clear c101b1
        try clear c103
        try clear c103b0
        try clear c103b1
        try clear c113
        try clear c113b0
        try clear c113b1
        try clear hx410_0
        try clear hx411_0
        try clear p2
        try clear p4
        try clear p41
        try clear p410
        try clear p411
        try clear p6
        try clear p64
        try clear q4
        try clear q41
        try clear q410
        try clear q411
        obtain ⟨kq, HA, HJ95, HO_3, HO_5, HB⟩ := hcut
        cases kq with
        | zero => exact absurd HA.out (by simp [laws_FnCueStates.j4])
        | succ kj95 =>
         have H := HA.out
         clear HA
         simp only [laws_FnCueStates.j4] at H
         have H' := jA H
         clear H
         go_wp2
         go_loopg [31] kj95 (fun kq v31 w' => ∃ (x31_4 : Int), v31 = .int .i64 x31_4 ∧ Aside0 (laws_FnCueStates.l1 kq t367 t368 t371 t372 x31_4 = some r) ∧ Aside0 (kq ≤ kj95) ∧ Aside0 (Kd.R k36 36 w' w.heap.size (fun _ => True) (.slice Ao16 t367.length co16) t367) ∧ Aside0 (Kd.R (Kd.int .i64) 2 w' w.heap.size (fun _ => True) v373 t371) ∧ Aside0 (Below w.heap.size w w'))
         case atStart => exact ⟨(0), zz, H', ⟨Nat.le_refl _⟩, ⟨by (with_reducible repeat (first | apply jG | apply jF | apply jK)); exact HO_3.out⟩, ⟨by (with_reducible repeat (first | apply jG | apply jF | apply jK)); exact HO_5.out⟩, ⟨zb0 HB⟩⟩
         case round =>
          clear H'
          try clear c1
          try clear c2
          try clear p2
          try clear c3
          try clear c4
          try clear p4
          try clear q4
          try clear hx4
          try clear c6
          try clear p6
          try clear c7
          try clear c8
          try clear c9
          try clear c10
          try clear c11
          try clear c12
          try clear c18
          try clear c19
          try clear c20
          try clear c21
          try clear c27
          try clear c27b0
          try clear c27b1
          try clear c29
          try clear c30
          try clear c30b0
          try clear c30b1
          try clear c31
          try clear c32
          try clear c33
          try clear c33b0
          try clear c33b1
          try clear c34
          try clear c34b0
          try clear c34b1
          try clear c35
          try clear c35b0
          try clear c35b1
          try clear c36
          try clear c37
          try clear c38
          try clear c39
          try clear p41
          try clear q41
          try clear hx41
          try clear c44
          try clear c45
          try clear c60
          try clear c62
          try clear c62b0
          try clear c62b1
          try clear p64
          try clear c68
          try clear c68b0
          try clear c68b1
          try clear c72
          try clear c73
          try clear c73b0
          try clear c73b1
          try clear c74
          try clear c74b0
          try clear c74b1
          try clear c74b2
          try clear c75
          try clear c75b0
          try clear c75b1
          try clear c75b2
          try clear c77
          try clear c77b0
          try clear c77b1
          try clear c78
          try clear c78b0
          try clear c78b1
          try clear c79
          try clear c79b0
          try clear c79b1
          try clear c81
          try clear c81b0
          try clear c82
          try clear c82b0
          try clear c83
          try clear c83b0
          try clear c83b1
          try clear c88
          try clear c88b0
          try clear c88b1
          try clear c90
          try clear c90b0
          try clear c91
          try clear c91b0
          try clear c92
          try clear c92b0
          try clear c92b1
          try clear c97
          try clear c97b0
          try clear c97b1
          try clear c98
          try clear c98b0
          try clear c100
          try clear c100b0
          try clear c100b1
          try clear c101
          try clear c101b0
          try clear c101b1
          try clear c103
          try clear c103b0
          try clear c103b1
          try clear c113
          try clear c113b0
          try clear c113b1
          try clear hx410_0
          try clear hx411_0
          try clear p2
          try clear p4
          try clear p41
          try clear p410
          try clear p411
          try clear p6
          try clear p64
          try clear q4
          try clear q41
          try clear q410
          try clear q411
          obtain ⟨x31_4, rfl, HA, HK4, HO_3, HO_5, HB⟩ := hrel
          cases gk with
          | zero => exact absurd HA.out (by simp [laws_FnCueStates.l1])
          | succ k4 =>
           have H := HA.out
           clear HA
           simp only [laws_FnCueStates.l1] at H
           have HC114 := jA H
           clear H
           go_upto_region 34 with (fail)
           go_cut [233] (fun v233 wc => ∃ (kq : Nat) (x233_113 : Bool), v233 = .bool x233_113 ∧ Aside0 (laws_FnCueStates.j6 kq t367 t368 t371 t372 x31_4 x233_113 = some r) ∧ Aside0 (kq ≤ k4) ∧ Aside0 (Kd.R k36 36 wc w.heap.size (fun _ => True) (.slice Ao16 t367.length co16) t367) ∧ Aside0 (Kd.R (Kd.int .i64) 2 wc w.heap.size (fun _ => True) v373 t371) ∧ Aside0 (Below w.heap.size w wc))
           case first =>
            have H := HC114.out
            clear HC114
            by_cases c115 : t372 = 0
            ·rw [if_pos c115] at H
             have c115b0 : (t372 == 0) = true := beq_iff_eq.mpr c115
             have c115b1 : (t372 != 0) = false := bne_eq_false_iff_eq.mpr c115
             clear c115
             (first | rw [c115b0] | (simp only [i64_w, i32_w]; rw [c115b0]) | skip)
             have H' := jA H
             clear H
             obtain ⟨Ao116, co116, eo116⟩ := Kd.R_slice HO_5.out
             subst eo116
             go_wp2
             go_meet
             case rel => exact ⟨_, (decide (x31_4 < (t371.length : Int))), zz, H', ⟨by have := HJ13.out; have := HJ60.out; have := HJ95.out; have := HK4.out; first | omega | exact Nat.le_refl _⟩, ⟨by (with_reducible repeat (first | apply jG | apply jF | apply jK)); exact HO_3.out⟩, ⟨by (with_reducible repeat (first | apply jG | apply jF | apply jK)); exact HO_5.out⟩, ⟨zb0 HB⟩⟩
            ·rw [if_neg c115] at H
             have c115b0 : (t372 == 0) = false := beq_eq_false_iff_ne.mpr c115
             have c115b1 : (t372 != 0) = true := bne_iff_ne.mpr c115
             (first | rw [c115b0] | (simp only [i64_w, i32_w]; rw [c115b0]) | skip)
             have H' := jA H
             clear H
             go_wp2
             go_meet
             case rel => exact ⟨_, (false), zz, H', ⟨by have := HJ13.out; have := HJ60.out; have := HJ95.out; have := HK4.out; first | omega | exact Nat.le_refl _⟩, ⟨by (with_reducible repeat (first | apply jG | apply jF | apply jK)); exact HO_3.out⟩, ⟨by (with_reducible repeat (first | apply jG | apply jF | apply jK)); exact HO_5.out⟩, ⟨zb0 HB⟩⟩
           case rest =>
            clear HC114
            try clear c1
            try clear c2
            try clear p2
            try clear c3
            try clear c4
            try clear p4
            try clear q4
            try clear hx4
            try clear c6
            try clear p6
            try clear c7
            try clear c8
            try clear c9
            try clear c10
            try clear c11
            try clear c12
            try clear c18
            try clear c19
            try clear c20
            try clear c21
            try clear c27
            try clear c27b0
            try clear c27b1
            try clear c29
            try clear c30
            try clear c30b0
            try clear c30b1
            try clear c31
            try clear c32
            try clear c33
            try clear c33b0
            try clear c33b1
            try clear c34
            try clear c34b0
            try clear c34b1
            try clear c35
            try clear c35b0
            try clear c35b1
            try clear c36
            try clear c37
            try clear c38
            try clear c39
            try clear p41
            try clear q41
            try clear hx41
            try clear c44
            try clear c45
            try clear c60
            try clear c62
            try clear c62b0
            try clear c62b1
            try clear p64
            try clear c68
            try clear c68b0
            try clear c68b1
            try clear c72
            try clear c73
            try clear c73b0
            try clear c73b1
            try clear c74
            try clear c74b0
            try clear c74b1
            try clear c74b2
            try clear c75
            try clear c75b0
            try clear c75b1
            try clear c75b2
            try clear c77
            try clear c77b0
            try clear c77b1
            try clear c78
            try clear c78b0
            try clear c78b1
            try clear c79
            try clear c79b0
            try clear c79b1
            try clear c81
            try clear c81b0
            try clear c82
            try clear c82b0
            try clear c83
            try clear c83b0
            try clear c83b1
            try clear c88
            try clear c88b0
            try clear c88b1
            try clear c90
            try clear c90b0
            try clear c91
            try clear c91b0
            try clear c92
            try clear c92b0
            try clear c92b1
            try clear c97
            try clear c97b0
            try clear c97b1
            try clear c98
            try clear c98b0
            try clear c100
            try clear c100b0
            try clear c100b1
            try clear c101
            try clear c101b0
            try clear c101b1
            try clear c103
            try clear c103b0
            try clear c103b1
            try clear c113
            try clear c113b0
            try clear c113b1
            try clear c115
            try clear c115b0
            try clear c115b1
            try clear hx410_0
            try clear hx411_0
            try clear p2
            try clear p4
            try clear p41
            try clear p410
            try clear p411
            try clear p6
            try clear p64
            try clear q4
            try clear q41
            try clear q410
            try clear q411
            obtain ⟨kq, x233_113, rfl, HA, HJ113, HO_3, HO_5, HB⟩ := hcut
            cases kq with
            | zero => exact absurd HA.out (by simp [laws_FnCueStates.j6])
            | succ kj113 =>
             have H := HA.out
             clear HA
             simp only [laws_FnCueStates.j6] at H
             by_cases c117 : x233_113 = true
             ·as_aux_lemma =>
              subst c117
              have H1 : (if 0 ≤ x31_4 then (if x31_4 < (t371.length : Int) then ((impl_CueState.f kj113 t367 (rd t371 x31_4)).bind fun bt418 => (if bt418.2 = 0 then (if bt418.1 = t368 then (laws_FnCueStates.l1 kj113 t367 t368 t371 t372 (wrap64 (x31_4 + 1))) else (some false)) else (some false))) else (none)) else (none)) = some r := by rw [if_pos rfl] at H; exact H
              clear H
              have H := H1
              clear H1
              by_cases c118 : 0 ≤ x31_4
              ·as_aux_lemma =>
               rw [if_pos c118] at H
               have c118b0 : decide (0 ≤ x31_4) = true := jN c118
               clear c118
               by_cases c119 : x31_4 < (t371.length : Int)
               ·as_aux_lemma =>
                rw [if_pos c119] at H
                have c119b0 : decide (x31_4 < (t371.length : Int)) = true := jN c119
                clear c119
                replace H := jD.mp H
                obtain ⟨⟨t418, t419⟩, A1200, H⟩ := H
                replace H : (if t419 = 0 then (if t418 = t368 then (laws_FnCueStates.l1 kj113 t367 t368 t371 t372 (wrap64 (x31_4 + 1))) else (some false)) else (some false)) = some r := H
                have A120 := jA A1200
                clear A1200
                by_cases c121 : t419 = 0
                ·as_aux_lemma =>
                 rw [if_pos c121] at H
                 have c121b0 : (t419 == 0) = true := beq_iff_eq.mpr c121
                 have c121b1 : (t419 != 0) = false := bne_eq_false_iff_eq.mpr c121
                 clear c121
                 by_cases c122 : t418 = t368
                 ·rw [if_pos c122] at H
                  have c122b0 : (t418 == t368) = true := beq_iff_eq.mpr c122
                  have c122b1 : (t418 != t368) = false := bne_eq_false_iff_eq.mpr c122
                  clear c122
                  have H' := jA H
                  clear H
                  obtain ⟨Ao123, co123, eo123⟩ := Kd.R_slice HO_5.out
                  subst eo123
                  have p417 : 0 ≤ (x31_4 : Int) := jC za
                  have q417 : x31_4 < (t371.length : Int) := jC za
                  obtain ⟨ad417, e417, hx417_0⟩ := Kd.at_int (jH HO_5.out).2.2 x31_4 p417 q417
                  cases e417
                  replace p417 := eq_true p417
                  replace q417 := eq_true q417
                  go_wp2_with (first | ((with_reducible refine jL (f := 21) rfl ?_); refine goesL_ (some 242) rfl rfl Try.func21 zr rfl #[.slice Ao16 t367.length co16, .int .i64 (rd t371 x31_4)] rfl zm ?_; (with_reducible refine (impl_CueState.calls kj113 _ _ t367 (rd t371 x31_4) t418 t419 _ ?side1 ?side2 A120.out).mono ?_); (case side1 => repeat (first | exact (jH HO_3.out).2.2 | (with_reducible refine jP ?_ _) | (with_reducible refine jO ?_ _) | (with_reducible refine jU ?_))); (case side2 => exact (jH HO_3.out).2.1); rintro e w124 ⟨rfl, hb⟩; refine ⟨_, rfl, ?_⟩; have n0_ := jA (jX (zo HO_3) hb); have n1_ := jA (jX (zo HO_5) hb); have n2_ := jA (jM (zb0 HB) hb); clear HO_3; clear HO_5; clear HB; have HO_3 := n0_; have HO_5 := n1_; have HB := n2_; clear n0_ n1_ n2_; (try clear hb); (try clear hb2); (try clear hk); (try clear hi)))
                  go_roundg kj113
                  case measure => have := HJ13.out; have := HJ60.out; have := HJ95.out; have := HK4.out; have := HJ113.out; omega
                  case rel => exact ⟨(wrap64 (x31_4 + 1)), zz, H', ⟨by have := HJ13.out; have := HJ60.out; have := HJ95.out; have := HK4.out; have := HJ113.out; omega⟩, ⟨by (with_reducible repeat (first | apply jG | apply jF | apply jK)); exact HO_3.out⟩, ⟨by (with_reducible repeat (first | apply jG | apply jF | apply jK)); exact HO_5.out⟩, ⟨zb0 HB⟩⟩
                 ·rw [if_neg c122] at H
                  have c122b0 : (t418 == t368) = false := beq_eq_false_iff_ne.mpr c122
                  have c122b1 : (t418 != t368) = true := bne_iff_ne.mpr c122
                  obtain rfl := jV H
                  obtain ⟨Ao125, co125, eo125⟩ := Kd.R_slice HO_5.out
                  subst eo125
                  have p417 : 0 ≤ (x31_4 : Int) := jC za
                  have q417 : x31_4 < (t371.length : Int) := jC za
                  obtain ⟨ad417, e417, hx417_0⟩ := Kd.at_int (jH HO_5.out).2.2 x31_4 p417 q417
                  cases e417
                  replace p417 := eq_true p417
                  replace q417 := eq_true q417
                  go_wp2_with (first | ((with_reducible refine jL (f := 21) rfl ?_); refine goesL_ (some 242) rfl rfl Try.func21 zr rfl #[.slice Ao16 t367.length co16, .int .i64 (rd t371 x31_4)] rfl zm ?_; (with_reducible refine (impl_CueState.calls kj113 _ _ t367 (rd t371 x31_4) t418 t419 _ ?side1 ?side2 A120.out).mono ?_); (case side1 => repeat (first | exact (jH HO_3.out).2.2 | (with_reducible refine jP ?_ _) | (with_reducible refine jO ?_ _) | (with_reducible refine jU ?_))); (case side2 => exact (jH HO_3.out).2.1); rintro e w126 ⟨rfl, hb⟩; refine ⟨_, rfl, ?_⟩; have n0_ := jA (jX (zo HO_3) hb); have n1_ := jA (jX (zo HO_5) hb); have n2_ := jA (jM (zb0 HB) hb); clear HO_3; clear HO_5; clear HB; have HO_3 := n0_; have HO_5 := n1_; have HB := n2_; clear n0_ n1_ n2_; (try clear hb); (try clear hb2); (try clear hk); (try clear hi)))
                  go_ret
                  exact ⟨by first | rfl | (simp [errW_none, errW_some] <;> rfl) | (simp [*, errW_none, errW_some] <;> rfl), zb0 HB⟩
                ·rw [if_neg c121] at H
                 have c121b0 : (t419 == 0) = false := beq_eq_false_iff_ne.mpr c121
                 have c121b1 : (t419 != 0) = true := bne_iff_ne.mpr c121
                 obtain rfl := jV H
                 obtain ⟨Ao127, co127, eo127⟩ := Kd.R_slice HO_5.out
                 subst eo127
                 have p417 : 0 ≤ (x31_4 : Int) := jC za
                 have q417 : x31_4 < (t371.length : Int) := jC za
                 obtain ⟨ad417, e417, hx417_0⟩ := Kd.at_int (jH HO_5.out).2.2 x31_4 p417 q417
                 cases e417
                 replace p417 := eq_true p417
                 replace q417 := eq_true q417
                 go_wp2_with (first | ((with_reducible refine jL (f := 21) rfl ?_); refine goesL_ (some 242) rfl rfl Try.func21 zr rfl #[.slice Ao16 t367.length co16, .int .i64 (rd t371 x31_4)] rfl zm ?_; (with_reducible refine (impl_CueState.calls kj113 _ _ t367 (rd t371 x31_4) t418 t419 _ ?side1 ?side2 A120.out).mono ?_); (case side1 => repeat (first | exact (jH HO_3.out).2.2 | (with_reducible refine jP ?_ _) | (with_reducible refine jO ?_ _) | (with_reducible refine jU ?_))); (case side2 => exact (jH HO_3.out).2.1); rintro e w128 ⟨rfl, hb⟩; refine ⟨_, rfl, ?_⟩; have n0_ := jA (jX (zo HO_3) hb); have n1_ := jA (jX (zo HO_5) hb); have n2_ := jA (jM (zb0 HB) hb); clear HO_3; clear HO_5; clear HB; have HO_3 := n0_; have HO_5 := n1_; have HB := n2_; clear n0_ n1_ n2_; (try clear hb); (try clear hb2); (try clear hk); (try clear hi)))
                 go_ret
                 exact ⟨by first | rfl | (simp [errW_none, errW_some] <;> rfl) | (simp [*, errW_none, errW_some] <;> rfl), zb0 HB⟩
               ·rw [if_neg c119] at H
                exact absurd H (by simp)
              ·rw [if_neg c118] at H
               exact absurd H (by simp)
             ·replace c117 := Bool.eq_false_iff.mpr c117
              subst c117
              have H1 : (some true) = some r := by rw [if_neg (show ¬ (false = true) by decide)] at H; exact H
              clear H
              have H := H1
              clear H1
              obtain rfl := jV H
              go_wp2
              go_ret
              exact ⟨by first | rfl | (simp [errW_none, errW_some] <;> rfl) | (simp [*, errW_none, errW_some] <;> rfl), zb0 HB⟩

/-- THE ONE PURE STATEMENT of laws_FnCueStates: yours. -/
def laws_FnCueStates.Pure : Prop := ∀ (l0 : List Int), l0.length ≤ maxLen → l0.length * 1 ≤ 140737488351232 → (∀ x ∈ l0, (Lit.int .u8 x).wf = true) → ∃ k, laws_FnCueStates.f k l0 = some true
theorem laws_FnCueStates.walk (P : laws_FnCueStates.Pure) (a0 : Option Addr) (len0 cap0 : Nat) (z0 : List Int) (w : World) (w0 : (a0 = none ∧ len0 = 0 ∧ cap0 = 0 ∧ z0 = []) ∨ ∃ x, a0 = some x ∧ len0 ≤ cap0 ∧ cap0 ≤ maxLen ∧ z0.length = cap0 ∧ (∀ i, i < z0.length → w.cell? (x.add i) = some (.int .u8 (z0.getD i 0))) ∧ ∀ n ∈ z0, (Lit.int .u8 n).wf = true) (y0 : len0 * 1 ≤ 140737488351232) :
  Calls Try.prog 12 #[.slice a0 len0 cap0] w fun e w' => e = .returned (.bool true) ∧ Below w.heap.size w w' := by
 obtain ⟨l0, rfl, hr0, hm0, hw0, hc0⟩ := ReadsInt.ofRowC w0
 obtain ⟨k, h⟩ := P l0 hm0 y0 hw0
 refine (laws_FnCueStates.calls k _ _ l0 true w (Kd.C_of_reads (d := (0 : Int)) (h1 := fun _ => rfl) hr0) hc0 h).mono ?_
 rintro e w' ⟨rfl, hd⟩
 exact ⟨rfl, hd⟩

end Go.Proofs.Ythnpffomoaeeoaa.PFnCueStates
