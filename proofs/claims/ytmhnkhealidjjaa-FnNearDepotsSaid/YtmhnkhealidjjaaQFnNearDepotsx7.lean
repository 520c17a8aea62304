/- Functions and contracts that FnNearDepots reaches (8 of 8). -/
import Derived.Test.YtmhnkhealidjjaaQFnNearDepotsx6
namespace Go.Proofs.Ytmhnkhealidjjaa.PFnNearDepots
open Go.RowKit Go.Proofs.YtmhnkhealidjjaaW.PrintWords Go.Proofs.YtmhnkhealidjjaaW.PrintLast Go.Proofs.YtmhnkhealidjjaaW.PrintMore
attribute [local go_sem] max2_int min2_int max_two min_two max_three min_three max_four min_four   -- for this text's walks alone
set_option linter.unusedVariables false
set_option linter.unusedSimpArgs false

/-! ### laws_FnNearDepots: function 10 -/
mutual
def laws_FnNearDepots.j0 : Nat → List Int → List (S51) → Int → Int → Int → Int → Int → List (S51) → Int → Int → Int → Int → Bool → Option (Bool)
  | 0, _, _, _, _, _, _, _, _, _, _, _, _, _ => none
  | k + 1, x0, x3, x4, x5, x6, x7, x8, x11, x12, x13, x14, x15, x85 => if x85 = true then (some false) else (laws_FnNearDepots.l0 k x0 x3 x4 x5 x6 x7 x8 x11 x12 x13 x14 x15 0)
def laws_FnNearDepots.l0 : Nat → List Int → List (S51) → Int → Int → Int → Int → Int → List (S51) → Int → Int → Int → Int → Int → Option (Bool)
  | 0, _, _, _, _, _, _, _, _, _, _, _, _, _ => none
  | k + 1, x0, x3, x4, x5, x6, x7, x8, x11, x12, x13, x14, x15, x18 => if x15 = 0 then (laws_FnNearDepots.j2 k x0 x3 x4 x5 x6 x7 x8 x11 x12 x13 x14 x15 x18 (decide (x18 < (x11.length : Int)))) else (laws_FnNearDepots.j2 k x0 x3 x4 x5 x6 x7 x8 x11 x12 x13 x14 x15 x18 false)
def laws_FnNearDepots.j2 : Nat → List Int → List (S51) → Int → Int → Int → Int → Int → List (S51) → Int → Int → Int → Int → Int → Bool → Option (Bool)
  | 0, _, _, _, _, _, _, _, _, _, _, _, _, _, _ => none
  | k + 1, x0, x3, x4, x5, x6, x7, x8, x11, x12, x13, x14, x15, x18, x93 => if x93 = true then (if 0 ≤ x14 then (if x14 < (x11.length : Int) then (if 0 ≤ x18 then (if x18 < (x11.length : Int) then (if (wrap64 ((wrap64 ((wrap64 (((rd_T51 x11 x18).f0) - x12)) * (wrap64 (((rd_T51 x11 x18).f0) - x12)))) + (wrap64 ((wrap64 (((rd_T51 x11 x18).f1) - x13)) * (wrap64 (((rd_T51 x11 x18).f1) - x13)))))) < (wrap64 ((wrap64 ((wrap64 (((rd_T51 x11 x14).f0) - x12)) * (wrap64 (((rd_T51 x11 x14).f0) - x12)))) + (wrap64 ((wrap64 (((rd_T51 x11 x14).f1) - x13)) * (wrap64 (((rd_T51 x11 x14).f1) - x13)))))) then (some false) else (if (wrap64 ((wrap64 ((wrap64 (((rd_T51 x11 x18).f0) - x12)) * (wrap64 (((rd_T51 x11 x18).f0) - x12)))) + (wrap64 ((wrap64 (((rd_T51 x11 x18).f1) - x13)) * (wrap64 (((rd_T51 x11 x18).f1) - x13)))))) = (wrap64 ((wrap64 ((wrap64 (((rd_T51 x11 x14).f0) - x12)) * (wrap64 (((rd_T51 x11 x14).f0) - x12)))) + (wrap64 ((wrap64 (((rd_T51 x11 x14).f1) - x13)) * (wrap64 (((rd_T51 x11 x14).f1) - x13)))))) then (if x18 < x14 then (some false) else (laws_FnNearDepots.l0 k x0 x3 x4 x5 x6 x7 x8 x11 x12 x13 x14 x15 (wrap64 (x18 + 1)))) else (laws_FnNearDepots.l0 k x0 x3 x4 x5 x6 x7 x8 x11 x12 x13 x14 x15 (wrap64 (x18 + 1))))) else (none)) else (none)) else (none)) else (none)) else (if x8 = 0 then (laws_FnNearDepots.j3 k x0 x3 x4 x5 x6 x7 (x6 == 100000)) else (laws_FnNearDepots.j3 k x0 x3 x4 x5 x6 x7 true))
def laws_FnNearDepots.j3 : Nat → List Int → List (S51) → Int → Int → Int → Int → Bool → Option (Bool)
  | 0, _, _, _, _, _, _, _ => none
  | k + 1, x0, x3, x4, x5, x6, x7, x176 => if x176 = true then (some true) else ((laws_roll.f k x0 2701).bind fun bt302 => ((laws_dice_below.f bt302.1 bt302.2.1 bt302.2.2 (wrap64 (100000 - x6))).bind fun bt306 => ((impl_GramsNear.f k x3 x4 x5 (wrap64 ((wrap64 (x6 + 1)) + bt306.1))).bind fun bt309 => (if bt309.2 = 0 then (some (decide (bt309.1 ≥ x7))) else (some false)))))
end
def laws_FnNearDepots.f (k : Nat) (l0 : List Int) : Option (Bool) := (laws_big.f l0).bind fun t274 => (if t274 = true then (some true) else ((spec_DrawGramsNear.f k l0).bind fun bt275 => ((impl_GramsNear.f k bt275.1 bt275.2.1 bt275.2.2.1 bt275.2.2.2).bind fun bt281 => ((spec_GramsNear.f k bt275.1 bt275.2.1 bt275.2.2.1 bt275.2.2.2).bind fun bt283 => ((spec_DrawNearestDepot.f k l0).bind fun bt285 => ((impl_NearestDepot.f k bt285.1 bt285.2.1 bt285.2.2).bind fun bt290 => ((spec_NearestDepot.f k bt285.1 bt285.2.1 bt285.2.2).bind fun bt292 => (if bt281.2 = bt283.2 then (if bt281.1 = bt283.1 then (if bt290.2 = bt292.2 then (laws_FnNearDepots.j0 k l0 bt275.1 bt275.2.1 bt275.2.2.1 bt275.2.2.2 bt281.1 bt281.2 bt285.1 bt285.2.1 bt285.2.2 bt290.1 bt290.2 (bt290.1 != bt292.1)) else (laws_FnNearDepots.j0 k l0 bt275.1 bt275.2.1 bt275.2.2.1 bt275.2.2.2 bt281.1 bt281.2 bt285.1 bt285.2.1 bt285.2.2 bt290.1 bt290.2 true)) else (laws_FnNearDepots.j0 k l0 bt275.1 bt275.2.1 bt275.2.2.1 bt275.2.2.2 bt281.1 bt281.2 bt285.1 bt285.2.1 bt285.2.2 bt290.1 bt290.2 true)) else (laws_FnNearDepots.j0 k l0 bt275.1 bt275.2.1 bt275.2.2.1 bt275.2.2.2 bt281.1 bt281.2 bt285.1 bt285.2.1 bt285.2.2 bt290.1 bt290.2 true)))))))))
theorem laws_FnNearDepots.mono_l : ∀ k, (∀ y0 y1 y2 y3 y4 y5 y6 y7 y8 y9 y10 y11 y12, LeO (laws_FnNearDepots.j0 k y0 y1 y2 y3 y4 y5 y6 y7 y8 y9 y10 y11 y12) (laws_FnNearDepots.j0 (k + 1) y0 y1 y2 y3 y4 y5 y6 y7 y8 y9 y10 y11 y12)) ∧ (∀ y0 y1 y2 y3 y4 y5 y6 y7 y8 y9 y10 y11 y12, LeO (laws_FnNearDepots.l0 k y0 y1 y2 y3 y4 y5 y6 y7 y8 y9 y10 y11 y12) (laws_FnNearDepots.l0 (k + 1) y0 y1 y2 y3 y4 y5 y6 y7 y8 y9 y10 y11 y12)) ∧ (∀ y0 y1 y2 y3 y4 y5 y6 y7 y8 y9 y10 y11 y12 y13, LeO (laws_FnNearDepots.j2 k y0 y1 y2 y3 y4 y5 y6 y7 y8 y9 y10 y11 y12 y13) (laws_FnNearDepots.j2 (k + 1) y0 y1 y2 y3 y4 y5 y6 y7 y8 y9 y10 y11 y12 y13)) ∧ (∀ y0 y1 y2 y3 y4 y5 y6, LeO (laws_FnNearDepots.j3 k y0 y1 y2 y3 y4 y5 y6) (laws_FnNearDepots.j3 (k + 1) y0 y1 y2 y3 y4 y5 y6))
  | 0 => ⟨fun _ _ _ _ _ _ _ _ _ _ _ _ _ r h => by simp [laws_FnNearDepots.j0] at h, fun _ _ _ _ _ _ _ _ _ _ _ _ _ r h => by simp [laws_FnNearDepots.l0] at h, fun _ _ _ _ _ _ _ _ _ _ _ _ _ _ r h => by simp [laws_FnNearDepots.j2] at h, fun _ _ _ _ _ _ _ r h => by simp [laws_FnNearDepots.j3] at h⟩
  | k + 1 => by
    obtain ⟨ih0, ih1, ih2, ih3⟩ := laws_FnNearDepots.mono_l k
    refine ⟨?_, ?_, ?_, ?_⟩
    · intro y0 y1 y2 y3 y4 y5 y6 y7 y8 y9 y10 y11 y12
      unfold laws_FnNearDepots.j0
      repeat' first
      | (with_reducible exact ih0 _ _ _ _ _ _ _ _ _ _ _ _ _)
      | (with_reducible exact ih1 _ _ _ _ _ _ _ _ _ _ _ _ _)
      | (with_reducible exact ih2 _ _ _ _ _ _ _ _ _ _ _ _ _ _)
      | (with_reducible exact ih3 _ _ _ _ _ _ _)
      | (with_reducible exact impl_GramsNear.mono _ _ _ _ _)
      | (with_reducible exact impl_NearestDepot.mono _ _ _ _)
      | (with_reducible exact laws_roll.mono _ _ _)
      | (with_reducible exact spec_DrawGramsNear.mono _ _)
      | (with_reducible exact spec_DrawNearestDepot.mono _ _)
      | (with_reducible exact spec_GramsNear.mono _ _ _ _ _)
      | (with_reducible exact spec_NearestDepot.mono _ _ _ _)
      | (with_reducible exact LeO.refl _)
      | (with_reducible exact LeO.none _)
      | (with_reducible refine LeO.ite ?_ ?_)
      | (with_reducible refine LeO.bind ?_ (fun _ => ?_))
      | exact ih0 _ _ _ _ _ _ _ _ _ _ _ _ _
      | exact ih1 _ _ _ _ _ _ _ _ _ _ _ _ _
      | exact ih2 _ _ _ _ _ _ _ _ _ _ _ _ _ _
      | exact ih3 _ _ _ _ _ _ _
      | exact impl_GramsNear.mono _ _ _ _ _
      | exact impl_NearestDepot.mono _ _ _ _
      | exact laws_roll.mono _ _ _
      | exact spec_DrawGramsNear.mono _ _
      | exact spec_DrawNearestDepot.mono _ _
      | exact spec_GramsNear.mono _ _ _ _ _
      | exact spec_NearestDepot.mono _ _ _ _
      | exact LeO.none _
      | refine LeO.ite ?_ ?_
      | refine LeO.bind ?_ (fun _ => ?_)
    · intro y0 y1 y2 y3 y4 y5 y6 y7 y8 y9 y10 y11 y12
      unfold laws_FnNearDepots.l0
      repeat' first
      | (with_reducible exact ih0 _ _ _ _ _ _ _ _ _ _ _ _ _)
      | (with_reducible exact ih1 _ _ _ _ _ _ _ _ _ _ _ _ _)
      | (with_reducible exact ih2 _ _ _ _ _ _ _ _ _ _ _ _ _ _)
      | (with_reducible exact ih3 _ _ _ _ _ _ _)
      | (with_reducible exact impl_GramsNear.mono _ _ _ _ _)
      | (with_reducible exact impl_NearestDepot.mono _ _ _ _)
      | (with_reducible exact laws_roll.mono _ _ _)
      | (with_reducible exact spec_DrawGramsNear.mono _ _)
      | (with_reducible exact spec_DrawNearestDepot.mono _ _)
      | (with_reducible exact spec_GramsNear.mono _ _ _ _ _)
      | (with_reducible exact spec_NearestDepot.mono _ _ _ _)
      | (with_reducible exact LeO.refl _)
      | (with_reducible exact LeO.none _)
      | (with_reducible refine LeO.ite ?_ ?_)
      | (with_reducible refine LeO.bind ?_ (fun _ => ?_))
      | exact ih0 _ _ _ _ _ _ _ _ _ _ _ _ _
      | exact ih1 _ _ _ _ _ _ _ _ _ _ _ _ _
      | exact ih2 _ _ _ _ _ _ _ _ _ _ _ _ _ _
      | exact ih3 _ _ _ _ _ _ _
      | exact impl_GramsNear.mono _ _ _ _ _
      | exact impl_NearestDepot.mono _ _ _ _
      | exact laws_roll.mono _ _ _
      | exact spec_DrawGramsNear.mono _ _
      | exact spec_DrawNearestDepot.mono _ _
      | exact spec_GramsNear.mono _ _ _ _ _
      | exact spec_NearestDepot.mono _ _ _ _
      | exact LeO.none _
      | refine LeO.ite ?_ ?_
      | refine LeO.bind ?_ (fun _ => ?_)
    · intro y0 y1 y2 y3 y4 y5 y6 y7 y8 y9 y10 y11 y12 y13
      unfold laws_FnNearDepots.j2
      repeat' first
      | (with_reducible exact ih0 _ _ _ _ _ _ _ _ _ _ _ _ _)
      | (with_reducible exact ih1 _ _ _ _ _ _ _ _ _ _ _ _ _)
      | (with_reducible exact ih2 _ _ _ _ _ _ _ _ _ _ _ _ _ _)
      | (with_reducible exact ih3 _ _ _ _ _ _ _)
      | (with_reducible exact impl_GramsNear.mono _ _ _ _ _)
      | (with_reducible exact impl_NearestDepot.mono _ _ _ _)
      | (with_reducible exact laws_roll.mono _ _ _)
      | (with_reducible exact spec_DrawGramsNear.mono _ _)
      | (with_reducible exact spec_DrawNearestDepot.mono _ _)
      | (with_reducible exact spec_GramsNear.mono _ _ _ _ _)
      | (with_reducible exact spec_NearestDepot.mono _ _ _ _)
      | (with_reducible exact LeO.refl _)
      | (with_reducible exact LeO.none _)
      | (with_reducible refine LeO.ite ?_ ?_)
      | (with_reducible refine LeO.bind ?_ (fun _ => ?_))
      | exact ih0 _ _ _ _ _ _ _ _ _ _ _ _ _
      | exact ih1 _ _ _ _ _ _ _ _ _ _ _ _ _
      | exact ih2 _ _ _ _ _ _ _ _ _ _ _ _ _ _
      | exact ih3 _ _ _ _ _ _ _
      | exact impl_GramsNear.mono _ _ _ _ _
      | exact impl_NearestDepot.mono _ _ _ _
      | exact laws_roll.mono _ _ _
      | exact spec_DrawGramsNear.mono _ _
      | exact spec_DrawNearestDepot.mono _ _
      | exact spec_GramsNear.mono _ _ _ _ _
      | exact spec_NearestDepot.mono _ _ _ _
      | exact LeO.none _
      | refine LeO.ite ?_ ?_
      | refine LeO.bind ?_ (fun _ => ?_)
    · intro y0 y1 y2 y3 y4 y5 y6
      unfold laws_FnNearDepots.j3
      repeat' first
      | (with_reducible exact ih0 _ _ _ _ _ _ _ _ _ _ _ _ _)
      | (with_reducible exact ih1 _ _ _ _ _ _ _ _ _ _ _ _ _)
      | (with_reducible exact ih2 _ _ _ _ _ _ _ _ _ _ _ _ _ _)
      | (with_reducible exact ih3 _ _ _ _ _ _ _)
      | (with_reducible exact impl_GramsNear.mono _ _ _ _ _)
      | (with_reducible exact impl_NearestDepot.mono _ _ _ _)
      | (with_reducible exact laws_roll.mono _ _ _)
      | (with_reducible exact spec_DrawGramsNear.mono _ _)
      | (with_reducible exact spec_DrawNearestDepot.mono _ _)
      | (with_reducible exact spec_GramsNear.mono _ _ _ _ _)
      | (with_reducible exact spec_NearestDepot.mono _ _ _ _)
      | (with_reducible exact LeO.refl _)
      | (with_reducible exact LeO.none _)
      | (with_reducible refine LeO.ite ?_ ?_)
      | (with_reducible refine LeO.bind ?_ (fun _ => ?_))
      | exact ih0 _ _ _ _ _ _ _ _ _ _ _ _ _
      | exact ih1 _ _ _ _ _ _ _ _ _ _ _ _ _
      | exact ih2 _ _ _ _ _ _ _ _ _ _ _ _ _ _
      | exact ih3 _ _ _ _ _ _ _
      | exact impl_GramsNear.mono _ _ _ _ _
      | exact impl_NearestDepot.mono _ _ _ _
      | exact laws_roll.mono _ _ _
      | exact spec_DrawGramsNear.mono _ _
      | exact spec_DrawNearestDepot.mono _ _
      | exact spec_GramsNear.mono _ _ _ _ _
      | exact spec_NearestDepot.mono _ _ _ _
      | exact LeO.none _
      | refine LeO.ite ?_ ?_
      | refine LeO.bind ?_ (fun _ => ?_)
theorem laws_FnNearDepots.mono : ∀ a0 k, LeO (laws_FnNearDepots.f k a0) (laws_FnNearDepots.f (k + 1) a0) := by
  intro a0 k
  obtain ⟨ih0, ih1, ih2, ih3⟩ := laws_FnNearDepots.mono_l k
  unfold laws_FnNearDepots.f
  repeat' first
      | (with_reducible exact ih0 _ _ _ _ _ _ _ _ _ _ _ _ _)
      | (with_reducible exact ih1 _ _ _ _ _ _ _ _ _ _ _ _ _)
      | (with_reducible exact ih2 _ _ _ _ _ _ _ _ _ _ _ _ _ _)
      | (with_reducible exact ih3 _ _ _ _ _ _ _)
      | (with_reducible exact impl_GramsNear.mono _ _ _ _ _)
      | (with_reducible exact impl_NearestDepot.mono _ _ _ _)
      | (with_reducible exact laws_roll.mono _ _ _)
      | (with_reducible exact spec_DrawGramsNear.mono _ _)
      | (with_reducible exact spec_DrawNearestDepot.mono _ _)
      | (with_reducible exact spec_GramsNear.mono _ _ _ _ _)
      | (with_reducible exact spec_NearestDepot.mono _ _ _ _)
      | (with_reducible exact LeO.refl _)
      | (with_reducible exact LeO.none _)
      | (with_reducible refine LeO.ite ?_ ?_)
      | (with_reducible refine LeO.bind ?_ (fun _ => ?_))
      | exact ih0 _ _ _ _ _ _ _ _ _ _ _ _ _
      | exact ih1 _ _ _ _ _ _ _ _ _ _ _ _ _
      | exact ih2 _ _ _ _ _ _ _ _ _ _ _ _ _ _
      | exact ih3 _ _ _ _ _ _ _
      | exact impl_GramsNear.mono _ _ _ _ _
      | exact impl_NearestDepot.mono _ _ _ _
      | exact laws_roll.mono _ _ _
      | exact spec_DrawGramsNear.mono _ _
      | exact spec_DrawNearestDepot.mono _ _
      | exact spec_GramsNear.mono _ _ _ _ _
      | exact spec_NearestDepot.mono _ _ _ _
      | exact LeO.none _
      | refine LeO.ite ?_ ?_
      | refine LeO.bind ?_ (fun _ => ?_)
set_option maxHeartbeats 8000000 in
set_option maxRecDepth 100000 in
theorem laws_FnNearDepots.calls (k : Nat) (A0 : Option Addr) (c0 : Nat) (l0 : List Int) (r : Bool) (w : World) (hr0 : Kd.C (Kd.int .u8) w A0 l0.length l0) (hc0 : l0.length ≤ c0) (h : laws_FnNearDepots.f k l0 = some r) :
    Calls Try.prog 10 #[.slice A0 l0.length c0] w fun e w' => e = .returned (.bool r) ∧ Below w.heap.size w w' := by
  have HR0 := Aside0.mk hr0
  have HC0 := Aside0.mk hc0
  clear hr0 hc0
  have HB := Aside0.mk (Below.refl w.heap.size w)
  have H : ((laws_big.f l0).bind fun t274 => (if t274 = true then (some true) else ((spec_DrawGramsNear.f k l0).bind fun bt275 => ((impl_GramsNear.f k bt275.1 bt275.2.1 bt275.2.2.1 bt275.2.2.2).bind fun bt281 => ((spec_GramsNear.f k bt275.1 bt275.2.1 bt275.2.2.1 bt275.2.2.2).bind fun bt283 => ((spec_DrawNearestDepot.f k l0).bind fun bt285 => ((impl_NearestDepot.f k bt285.1 bt285.2.1 bt285.2.2).bind fun bt290 => ((spec_NearestDepot.f k bt285.1 bt285.2.1 bt285.2.2).bind fun bt292 => (if bt281.2 = bt283.2 then (if bt281.1 = bt283.1 then (if bt290.2 = bt292.2 then (laws_FnNearDepots.j0 k l0 bt275.1 bt275.2.1 bt275.2.2.1 bt275.2.2.2 bt281.1 bt281.2 bt285.1 bt285.2.1 bt285.2.2 bt290.1 bt290.2 (bt290.1 != bt292.1)) else (laws_FnNearDepots.j0 k l0 bt275.1 bt275.2.1 bt275.2.2.1 bt275.2.2.2 bt281.1 bt281.2 bt285.1 bt285.2.1 bt285.2.2 bt290.1 bt290.2 true)) else (laws_FnNearDepots.j0 k l0 bt275.1 bt275.2.1 bt275.2.2.1 bt275.2.2.2 bt281.1 bt281.2 bt285.1 bt285.2.1 bt285.2.2 bt290.1 bt290.2 true)) else (laws_FnNearDepots.j0 k l0 bt275.1 bt275.2.1 bt275.2.2.1 bt275.2.2.2 bt281.1 bt281.2 bt285.1 bt285.2.1 bt285.2.2 bt290.1 bt290.2 true)))))))))) = some r := h
  clear h
  replace H := Option.bind_eq_some_iff.mp H
  obtain ⟨t274, A20, H⟩ := H
  replace H : (if t274 = true then (some true) else ((spec_DrawGramsNear.f k l0).bind fun bt275 => ((impl_GramsNear.f k bt275.1 bt275.2.1 bt275.2.2.1 bt275.2.2.2).bind fun bt281 => ((spec_GramsNear.f k bt275.1 bt275.2.1 bt275.2.2.1 bt275.2.2.2).bind fun bt283 => ((spec_DrawNearestDepot.f k l0).bind fun bt285 => ((impl_NearestDepot.f k bt285.1 bt285.2.1 bt285.2.2).bind fun bt290 => ((spec_NearestDepot.f k bt285.1 bt285.2.1 bt285.2.2).bind fun bt292 => (if bt281.2 = bt283.2 then (if bt281.1 = bt283.1 then (if bt290.2 = bt292.2 then (laws_FnNearDepots.j0 k l0 bt275.1 bt275.2.1 bt275.2.2.1 bt275.2.2.2 bt281.1 bt281.2 bt285.1 bt285.2.1 bt285.2.2 bt290.1 bt290.2 (bt290.1 != bt292.1)) else (laws_FnNearDepots.j0 k l0 bt275.1 bt275.2.1 bt275.2.2.1 bt275.2.2.2 bt281.1 bt281.2 bt285.1 bt285.2.1 bt285.2.2 bt290.1 bt290.2 true)) else (laws_FnNearDepots.j0 k l0 bt275.1 bt275.2.1 bt275.2.2.1 bt275.2.2.2 bt281.1 bt281.2 bt285.1 bt285.2.1 bt285.2.2 bt290.1 bt290.2 true)) else (laws_FnNearDepots.j0 k l0 bt275.1 bt275.2.1 bt275.2.2.1 bt275.2.2.2 bt281.1 bt281.2 bt285.1 bt285.2.1 bt285.2.2 bt290.1 bt290.2 true))))))))) = some r := H
  have A2 := Aside0.mk A20
  clear A20
  by_cases c3 : t274 = true
  · subst c3
    have H1 : (some true) = some r := by rw [if_pos rfl] at H; exact H
    clear H
    have H := H1
    clear H1
    obtain rfl := Option.some.inj H
    go_enter Try.func10, Try.ntmps10
    go_wp2_with (first | (go_at_call 24; (with_reducible refine (laws_big.calls _ _ l0 true _ ?side1 ?side2 A2.out).mono ?_); (case side1 => repeat (first | exact HR0.out | (with_reducible refine Kd.C_alloc ?_ _) | (with_reducible refine Kd.C_drewN ?_ _) | (with_reducible refine Kd.C_drew ?_))); (case side2 => exact HC0.out); rintro e w' ⟨rfl, ⟨nd, rfl⟩⟩; (try first | exact ⟨rfl, _, World.drewN_drewN _ _ _⟩ | exact ⟨rfl, _, Eq.trans (World.drewN_drewN _ _ _) (congrArg (World.drewN _) (Nat.add_assoc _ _ _))⟩)))
    repeat (go_quiet (first | (go_at_call 24; (with_reducible refine (laws_big.calls _ _ l0 true _ ?side1 ?side2 A2.out).mono ?_); (case side1 => repeat (first | exact HR0.out | (with_reducible refine Kd.C_alloc ?_ _) | (with_reducible refine Kd.C_drewN ?_ _) | (with_reducible refine Kd.C_drew ?_))); (case side2 => exact HC0.out); rintro e w' ⟨rfl, ⟨nd, rfl⟩⟩; (try first | exact ⟨rfl, _, World.drewN_drewN _ _ _⟩ | exact ⟨rfl, _, Eq.trans (World.drewN_drewN _ _ _) (congrArg (World.drewN _) (Nat.add_assoc _ _ _))⟩))); try go_wp2_with (first | (go_at_call 24; (with_reducible refine (laws_big.calls _ _ l0 true _ ?side1 ?side2 A2.out).mono ?_); (case side1 => repeat (first | exact HR0.out | (with_reducible refine Kd.C_alloc ?_ _) | (with_reducible refine Kd.C_drewN ?_ _) | (with_reducible refine Kd.C_drew ?_))); (case side2 => exact HC0.out); rintro e w' ⟨rfl, ⟨nd, rfl⟩⟩; (try first | exact ⟨rfl, _, World.drewN_drewN _ _ _⟩ | exact ⟨rfl, _, Eq.trans (World.drewN_drewN _ _ _) (congrArg (World.drewN _) (Nat.add_assoc _ _ _))⟩))))
    go_ret
    exact ⟨by first | rfl | (simp [errW_none, errW_some] <;> rfl) | (simp [*, errW_none, errW_some] <;> rfl), by repeat (first | (with_reducible first | exact HB.out | apply below_alloc | apply pw_below_drewN | apply below_drew1) | exact HB.out)⟩
  · replace c3 := Bool.eq_false_iff.mpr c3
    subst c3
    have H1 : ((spec_DrawGramsNear.f k l0).bind fun bt275 => ((impl_GramsNear.f k bt275.1 bt275.2.1 bt275.2.2.1 bt275.2.2.2).bind fun bt281 => ((spec_GramsNear.f k bt275.1 bt275.2.1 bt275.2.2.1 bt275.2.2.2).bind fun bt283 => ((spec_DrawNearestDepot.f k l0).bind fun bt285 => ((impl_NearestDepot.f k bt285.1 bt285.2.1 bt285.2.2).bind fun bt290 => ((spec_NearestDepot.f k bt285.1 bt285.2.1 bt285.2.2).bind fun bt292 => (if bt281.2 = bt283.2 then (if bt281.1 = bt283.1 then (if bt290.2 = bt292.2 then (laws_FnNearDepots.j0 k l0 bt275.1 bt275.2.1 bt275.2.2.1 bt275.2.2.2 bt281.1 bt281.2 bt285.1 bt285.2.1 bt285.2.2 bt290.1 bt290.2 (bt290.1 != bt292.1)) else (laws_FnNearDepots.j0 k l0 bt275.1 bt275.2.1 bt275.2.2.1 bt275.2.2.2 bt281.1 bt281.2 bt285.1 bt285.2.1 bt285.2.2 bt290.1 bt290.2 true)) else (laws_FnNearDepots.j0 k l0 bt275.1 bt275.2.1 bt275.2.2.1 bt275.2.2.2 bt281.1 bt281.2 bt285.1 bt285.2.1 bt285.2.2 bt290.1 bt290.2 true)) else (laws_FnNearDepots.j0 k l0 bt275.1 bt275.2.1 bt275.2.2.1 bt275.2.2.2 bt281.1 bt281.2 bt285.1 bt285.2.1 bt285.2.2 bt290.1 bt290.2 true)))))))) = some r := by rw [if_neg (show ¬ (false = true) by decide)] at H; exact H
    clear H
    have H := H1
    clear H1
    replace H := Option.bind_eq_some_iff.mp H
    obtain ⟨⟨t275, t276, t277, t278⟩, A40, H⟩ := H
    replace H : ((impl_GramsNear.f k t275 t276 t277 t278).bind fun bt281 => ((spec_GramsNear.f k t275 t276 t277 t278).bind fun bt283 => ((spec_DrawNearestDepot.f k l0).bind fun bt285 => ((impl_NearestDepot.f k bt285.1 bt285.2.1 bt285.2.2).bind fun bt290 => ((spec_NearestDepot.f k bt285.1 bt285.2.1 bt285.2.2).bind fun bt292 => (if bt281.2 = bt283.2 then (if bt281.1 = bt283.1 then (if bt290.2 = bt292.2 then (laws_FnNearDepots.j0 k l0 t275 t276 t277 t278 bt281.1 bt281.2 bt285.1 bt285.2.1 bt285.2.2 bt290.1 bt290.2 (bt290.1 != bt292.1)) else (laws_FnNearDepots.j0 k l0 t275 t276 t277 t278 bt281.1 bt281.2 bt285.1 bt285.2.1 bt285.2.2 bt290.1 bt290.2 true)) else (laws_FnNearDepots.j0 k l0 t275 t276 t277 t278 bt281.1 bt281.2 bt285.1 bt285.2.1 bt285.2.2 bt290.1 bt290.2 true)) else (laws_FnNearDepots.j0 k l0 t275 t276 t277 t278 bt281.1 bt281.2 bt285.1 bt285.2.1 bt285.2.2 bt290.1 bt290.2 true))))))) = some r := H
    have A4 := Aside0.mk A40
    clear A40
    replace H := Option.bind_eq_some_iff.mp H
    obtain ⟨⟨t281, t282⟩, A50, H⟩ := H
    replace H : ((spec_GramsNear.f k t275 t276 t277 t278).bind fun bt283 => ((spec_DrawNearestDepot.f k l0).bind fun bt285 => ((impl_NearestDepot.f k bt285.1 bt285.2.1 bt285.2.2).bind fun bt290 => ((spec_NearestDepot.f k bt285.1 bt285.2.1 bt285.2.2).bind fun bt292 => (if t282 = bt283.2 then (if t281 = bt283.1 then (if bt290.2 = bt292.2 then (laws_FnNearDepots.j0 k l0 t275 t276 t277 t278 t281 t282 bt285.1 bt285.2.1 bt285.2.2 bt290.1 bt290.2 (bt290.1 != bt292.1)) else (laws_FnNearDepots.j0 k l0 t275 t276 t277 t278 t281 t282 bt285.1 bt285.2.1 bt285.2.2 bt290.1 bt290.2 true)) else (laws_FnNearDepots.j0 k l0 t275 t276 t277 t278 t281 t282 bt285.1 bt285.2.1 bt285.2.2 bt290.1 bt290.2 true)) else (laws_FnNearDepots.j0 k l0 t275 t276 t277 t278 t281 t282 bt285.1 bt285.2.1 bt285.2.2 bt290.1 bt290.2 true)))))) = some r := H
    have A5 := Aside0.mk A50
    clear A50
    replace H := Option.bind_eq_some_iff.mp H
    obtain ⟨⟨t283, t284⟩, A60, H⟩ := H
    replace H : ((spec_DrawNearestDepot.f k l0).bind fun bt285 => ((impl_NearestDepot.f k bt285.1 bt285.2.1 bt285.2.2).bind fun bt290 => ((spec_NearestDepot.f k bt285.1 bt285.2.1 bt285.2.2).bind fun bt292 => (if t282 = t284 then (if t281 = t283 then (if bt290.2 = bt292.2 then (laws_FnNearDepots.j0 k l0 t275 t276 t277 t278 t281 t282 bt285.1 bt285.2.1 bt285.2.2 bt290.1 bt290.2 (bt290.1 != bt292.1)) else (laws_FnNearDepots.j0 k l0 t275 t276 t277 t278 t281 t282 bt285.1 bt285.2.1 bt285.2.2 bt290.1 bt290.2 true)) else (laws_FnNearDepots.j0 k l0 t275 t276 t277 t278 t281 t282 bt285.1 bt285.2.1 bt285.2.2 bt290.1 bt290.2 true)) else (laws_FnNearDepots.j0 k l0 t275 t276 t277 t278 t281 t282 bt285.1 bt285.2.1 bt285.2.2 bt290.1 bt290.2 true))))) = some r := H
    have A6 := Aside0.mk A60
    clear A60
    replace H := Option.bind_eq_some_iff.mp H
    obtain ⟨⟨t285, t286, t287⟩, A70, H⟩ := H
    replace H : ((impl_NearestDepot.f k t285 t286 t287).bind fun bt290 => ((spec_NearestDepot.f k t285 t286 t287).bind fun bt292 => (if t282 = t284 then (if t281 = t283 then (if bt290.2 = bt292.2 then (laws_FnNearDepots.j0 k l0 t275 t276 t277 t278 t281 t282 t285 t286 t287 bt290.1 bt290.2 (bt290.1 != bt292.1)) else (laws_FnNearDepots.j0 k l0 t275 t276 t277 t278 t281 t282 t285 t286 t287 bt290.1 bt290.2 true)) else (laws_FnNearDepots.j0 k l0 t275 t276 t277 t278 t281 t282 t285 t286 t287 bt290.1 bt290.2 true)) else (laws_FnNearDepots.j0 k l0 t275 t276 t277 t278 t281 t282 t285 t286 t287 bt290.1 bt290.2 true)))) = some r := H
    have A7 := Aside0.mk A70
    clear A70
    replace H := Option.bind_eq_some_iff.mp H
    obtain ⟨⟨t290, t291⟩, A80, H⟩ := H
    replace H : ((spec_NearestDepot.f k t285 t286 t287).bind fun bt292 => (if t282 = t284 then (if t281 = t283 then (if t291 = bt292.2 then (laws_FnNearDepots.j0 k l0 t275 t276 t277 t278 t281 t282 t285 t286 t287 t290 t291 (t290 != bt292.1)) else (laws_FnNearDepots.j0 k l0 t275 t276 t277 t278 t281 t282 t285 t286 t287 t290 t291 true)) else (laws_FnNearDepots.j0 k l0 t275 t276 t277 t278 t281 t282 t285 t286 t287 t290 t291 true)) else (laws_FnNearDepots.j0 k l0 t275 t276 t277 t278 t281 t282 t285 t286 t287 t290 t291 true))) = some r := H
    have A8 := Aside0.mk A80
    clear A80
    replace H := Option.bind_eq_some_iff.mp H
    obtain ⟨⟨t292, t293⟩, A90, H⟩ := H
    replace H : (if t282 = t284 then (if t281 = t283 then (if t291 = t293 then (laws_FnNearDepots.j0 k l0 t275 t276 t277 t278 t281 t282 t285 t286 t287 t290 t291 (t290 != t292)) else (laws_FnNearDepots.j0 k l0 t275 t276 t277 t278 t281 t282 t285 t286 t287 t290 t291 true)) else (laws_FnNearDepots.j0 k l0 t275 t276 t277 t278 t281 t282 t285 t286 t287 t290 t291 true)) else (laws_FnNearDepots.j0 k l0 t275 t276 t277 t278 t281 t282 t285 t286 t287 t290 t291 true)) = some r := H
    have A9 := Aside0.mk A90
    clear A90
    have HC10 := Aside0.mk H
    clear H
    go_enter Try.func10, Try.ntmps10
    go_upto_region 9 with (first | (go_at_call 24; (with_reducible refine (laws_big.calls _ _ l0 false _ ?side1 ?side2 A2.out).mono ?_); (case side1 => repeat (first | exact HR0.out | (with_reducible refine Kd.C_alloc ?_ _) | (with_reducible refine Kd.C_drewN ?_ _) | (with_reducible refine Kd.C_drew ?_))); (case side2 => exact HC0.out); rintro e w' ⟨rfl, ⟨nd, rfl⟩⟩; (try first | exact ⟨rfl, _, World.drewN_drewN _ _ _⟩ | exact ⟨rfl, _, Eq.trans (World.drewN_drewN _ _ _) (congrArg (World.drewN _) (Nat.add_assoc _ _ _))⟩)) | (go_at_call 38; (with_reducible refine (spec_DrawGramsNear.calls k _ _ l0 t275 t276 t277 t278 _ ?side1 ?side2 A4.out).mono ?_); (case side1 => repeat (first | exact HR0.out | (with_reducible refine Kd.C_alloc ?_ _) | (with_reducible refine Kd.C_drewN ?_ _) | (with_reducible refine Kd.C_drew ?_))); (case side2 => exact HC0.out); rintro e w11 ⟨v279, rfl, ho0, hb⟩; have n0_ := Aside0.mk (Kd.R_lower ho0 (below_size (by repeat (first | (with_reducible first | exact HB.out | apply below_alloc | apply pw_below_drewN | apply below_drew1) | exact HB.out)))); have n1_ := Aside0.mk (below_step (by repeat (first | (with_reducible first | exact HB.out | apply below_alloc | apply pw_below_drewN | apply below_drew1) | exact HB.out)) hb); clear HB; have HO280 := n0_; have HB := n1_; clear n0_ n1_; (try clear hb); (try clear hb2); (try clear hk); (try clear hi); (try clear ho0); obtain ⟨Ao12, co12, eo12⟩ := Kd.R_slice HO280.out; subst eo12) | (go_at_call 30; (with_reducible refine (impl_GramsNear.calls k _ _ t275 t276 t277 t278 t281 t282 _ ?side1 ?side2 A5.out).mono ?_); (case side1 => repeat (first | exact (Kd.R_reads' HO280.out).2.2 | (with_reducible refine Kd.C_alloc ?_ _) | (with_reducible refine Kd.C_drewN ?_ _) | (with_reducible refine Kd.C_drew ?_))); (case side2 => exact (Kd.R_reads' HO280.out).2.1); rintro e w13 ⟨rfl, hb⟩; have n0_ := Aside0.mk (Kd.R_below (by (with_reducible repeat (first | apply Kd.R_alloc | apply Kd.R_drewN | apply Kd.R_drew)); exact HO280.out) hb); have n1_ := Aside0.mk (below_step (by repeat (first | (with_reducible first | exact HB.out | apply below_alloc | apply pw_below_drewN | apply below_drew1) | exact HB.out)) hb); clear HO280; clear HB; have HO280 := n0_; have HB := n1_; clear n0_ n1_; (try clear hb); (try clear hb2); (try clear hk); (try clear hi)) | (go_at_call 29; (with_reducible refine (spec_GramsNear.calls k _ _ t275 t276 t277 t278 t283 t284 _ ?side1 ?side2 A6.out).mono ?_); (case side1 => repeat (first | exact (Kd.R_reads' HO280.out).2.2 | (with_reducible refine Kd.C_alloc ?_ _) | (with_reducible refine Kd.C_drewN ?_ _) | (with_reducible refine Kd.C_drew ?_))); (case side2 => exact (Kd.R_reads' HO280.out).2.1); rintro e w14 ⟨rfl, hb⟩; have n0_ := Aside0.mk (Kd.R_below (by (with_reducible repeat (first | apply Kd.R_alloc | apply Kd.R_drewN | apply Kd.R_drew)); exact HO280.out) hb); have n1_ := Aside0.mk (below_step (by repeat (first | (with_reducible first | exact HB.out | apply below_alloc | apply pw_below_drewN | apply below_drew1) | exact HB.out)) hb); clear HO280; clear HB; have HO280 := n0_; have HB := n1_; clear n0_ n1_; (try clear hb); (try clear hb2); (try clear hk); (try clear hi)) | (go_at_call 39; (with_reducible refine (spec_DrawNearestDepot.calls k _ _ l0 t285 t286 t287 _ ?side1 ?side2 A7.out).mono ?_); (case side1 => repeat (first | exact HR0.out | exact (Kd.C_below HR0.out HB.out) | (with_reducible refine Kd.C_alloc ?_ _) | (with_reducible refine Kd.C_drewN ?_ _) | (with_reducible refine Kd.C_drew ?_))); (case side2 => exact HC0.out); rintro e w15 ⟨v288, rfl, ho0, hb⟩; have n0_ := Aside0.mk (Kd.R_elder' (by (with_reducible repeat (first | apply Kd.R_alloc | apply Kd.R_drewN | apply Kd.R_drew)); exact HO280.out) (Kd.R_base ho0) hb); have n1_ := Aside0.mk (Kd.R_lower (Kd.R_new' ho0 (Kd.R_lt (by (with_reducible repeat (first | apply Kd.R_alloc | apply Kd.R_drewN | apply Kd.R_drew)); exact HO280.out))) (below_size (by repeat (first | (with_reducible first | exact HB.out | apply below_alloc | apply pw_below_drewN | apply below_drew1) | exact HB.out)))); have n2_ := Aside0.mk (below_step (by repeat (first | (with_reducible first | exact HB.out | apply below_alloc | apply pw_below_drewN | apply below_drew1) | exact HB.out)) hb); clear HO280; clear HB; have HO280 := n0_; have HO289 := n1_; have HB := n2_; clear n0_ n1_ n2_; (try clear hb); (try clear hb2); (try clear hk); (try clear hi); (try clear ho0); obtain ⟨Ao16, co16, eo16⟩ := Kd.R_slice HO289.out; subst eo16) | (go_at_call 32; (with_reducible refine (impl_NearestDepot.calls k _ _ t285 t286 t287 t290 t291 _ ?side1 ?side2 A8.out).mono ?_); (case side1 => repeat (first | exact (Kd.R_reads' HO289.out).2.2 | (with_reducible refine Kd.C_alloc ?_ _) | (with_reducible refine Kd.C_drewN ?_ _) | (with_reducible refine Kd.C_drew ?_))); (case side2 => exact (Kd.R_reads' HO289.out).2.1); rintro e w17 ⟨rfl, hb⟩; have n0_ := Aside0.mk (Kd.R_below (by (with_reducible repeat (first | apply Kd.R_alloc | apply Kd.R_drewN | apply Kd.R_drew)); exact HO280.out) hb); have n1_ := Aside0.mk (Kd.R_below (by (with_reducible repeat (first | apply Kd.R_alloc | apply Kd.R_drewN | apply Kd.R_drew)); exact HO289.out) hb); have n2_ := Aside0.mk (below_step (by repeat (first | (with_reducible first | exact HB.out | apply below_alloc | apply pw_below_drewN | apply below_drew1) | exact HB.out)) hb); clear HO280; clear HO289; clear HB; have HO280 := n0_; have HO289 := n1_; have HB := n2_; clear n0_ n1_ n2_; (try clear hb); (try clear hb2); (try clear hk); (try clear hi)) | (go_at_call 31; (with_reducible refine (spec_NearestDepot.calls k _ _ t285 t286 t287 t292 t293 _ ?side1 ?side2 A9.out).mono ?_); (case side1 => repeat (first | exact (Kd.R_reads' HO289.out).2.2 | (with_reducible refine Kd.C_alloc ?_ _) | (with_reducible refine Kd.C_drewN ?_ _) | (with_reducible refine Kd.C_drew ?_))); (case side2 => exact (Kd.R_reads' HO289.out).2.1); rintro e w18 ⟨rfl, hb⟩; have n0_ := Aside0.mk (Kd.R_below (by (with_reducible repeat (first | apply Kd.R_alloc | apply Kd.R_drewN | apply Kd.R_drew)); exact HO280.out) hb); have n1_ := Aside0.mk (Kd.R_below (by (with_reducible repeat (first | apply Kd.R_alloc | apply Kd.R_drewN | apply Kd.R_drew)); exact HO289.out) hb); have n2_ := Aside0.mk (below_step (by repeat (first | (with_reducible first | exact HB.out | apply below_alloc | apply pw_below_drewN | apply below_drew1) | exact HB.out)) hb); clear HO280; clear HO289; clear HB; have HO280 := n0_; have HO289 := n1_; have HB := n2_; clear n0_ n1_ n2_; (try clear hb); (try clear hb2); (try clear hk); (try clear hi)))
    repeat (go_quiet (first | (go_at_call 24; (with_reducible refine (laws_big.calls _ _ l0 false _ ?side1 ?side2 A2.out).mono ?_); (case side1 => repeat (first | exact HR0.out | (with_reducible refine Kd.C_alloc ?_ _) | (with_reducible refine Kd.C_drewN ?_ _) | (with_reducible refine Kd.C_drew ?_))); (case side2 => exact HC0.out); rintro e w' ⟨rfl, ⟨nd, rfl⟩⟩; (try first | exact ⟨rfl, _, World.drewN_drewN _ _ _⟩ | exact ⟨rfl, _, Eq.trans (World.drewN_drewN _ _ _) (congrArg (World.drewN _) (Nat.add_assoc _ _ _))⟩)) | (go_at_call 38; (with_reducible refine (spec_DrawGramsNear.calls k _ _ l0 t275 t276 t277 t278 _ ?side1 ?side2 A4.out).mono ?_); (case side1 => repeat (first | exact HR0.out | (with_reducible refine Kd.C_alloc ?_ _) | (with_reducible refine Kd.C_drewN ?_ _) | (with_reducible refine Kd.C_drew ?_))); (case side2 => exact HC0.out); rintro e w11 ⟨v279, rfl, ho0, hb⟩; have n0_ := Aside0.mk (Kd.R_lower ho0 (below_size (by repeat (first | (with_reducible first | exact HB.out | apply below_alloc | apply pw_below_drewN | apply below_drew1) | exact HB.out)))); have n1_ := Aside0.mk (below_step (by repeat (first | (with_reducible first | exact HB.out | apply below_alloc | apply pw_below_drewN | apply below_drew1) | exact HB.out)) hb); clear HB; have HO280 := n0_; have HB := n1_; clear n0_ n1_; (try clear hb); (try clear hb2); (try clear hk); (try clear hi); (try clear ho0); obtain ⟨Ao12, co12, eo12⟩ := Kd.R_slice HO280.out; subst eo12) | (go_at_call 30; (with_reducible refine (impl_GramsNear.calls k _ _ t275 t276 t277 t278 t281 t282 _ ?side1 ?side2 A5.out).mono ?_); (case side1 => repeat (first | exact (Kd.R_reads' HO280.out).2.2 | (with_reducible refine Kd.C_alloc ?_ _) | (with_reducible refine Kd.C_drewN ?_ _) | (with_reducible refine Kd.C_drew ?_))); (case side2 => exact (Kd.R_reads' HO280.out).2.1); rintro e w13 ⟨rfl, hb⟩; have n0_ := Aside0.mk (Kd.R_below (by (with_reducible repeat (first | apply Kd.R_alloc | apply Kd.R_drewN | apply Kd.R_drew)); exact HO280.out) hb); have n1_ := Aside0.mk (below_step (by repeat (first | (with_reducible first | exact HB.out | apply below_alloc | apply pw_below_drewN | apply below_drew1) | exact HB.out)) hb); clear HO280; clear HB; have HO280 := n0_; have HB := n1_; clear n0_ n1_; (try clear hb); (try clear hb2); (try clear hk); (try clear hi)) | (go_at_call 29; (with_reducible refine (spec_GramsNear.calls k _ _ t275 t276 t277 t278 t283 t284 _ ?side1 ?side2 A6.out).mono ?_); (case side1 => repeat (first | exact (Kd.R_reads' HO280.out).2.2 | (with_reducible refine Kd.C_alloc ?_ _) | (with_reducible refine Kd.C_drewN ?_ _) | (with_reducible refine Kd.C_drew ?_))); (case side2 => exact (Kd.R_reads' HO280.out).2.1); rintro e w14 ⟨rfl, hb⟩; have n0_ := Aside0.mk (Kd.R_below (by (with_reducible repeat (first | apply Kd.R_alloc | apply Kd.R_drewN | apply Kd.R_drew)); exact HO280.out) hb); have n1_ := Aside0.mk (below_step (by repeat (first | (with_reducible first | exact HB.out | apply below_alloc | apply pw_below_drewN | apply below_drew1) | exact HB.out)) hb); clear HO280; clear HB; have HO280 := n0_; have HB := n1_; clear n0_ n1_; (try clear hb); (try clear hb2); (try clear hk); (try clear hi)) | (go_at_call 39; (with_reducible refine (spec_DrawNearestDepot.calls k _ _ l0 t285 t286 t287 _ ?side1 ?side2 A7.out).mono ?_); (case side1 => repeat (first | exact HR0.out | exact (Kd.C_below HR0.out HB.out) | (with_reducible refine Kd.C_alloc ?_ _) | (with_reducible refine Kd.C_drewN ?_ _) | (with_reducible refine Kd.C_drew ?_))); (case side2 => exact HC0.out); rintro e w15 ⟨v288, rfl, ho0, hb⟩; have n0_ := Aside0.mk (Kd.R_elder' (by (with_reducible repeat (first | apply Kd.R_alloc | apply Kd.R_drewN | apply Kd.R_drew)); exact HO280.out) (Kd.R_base ho0) hb); have n1_ := Aside0.mk (Kd.R_lower (Kd.R_new' ho0 (Kd.R_lt (by (with_reducible repeat (first | apply Kd.R_alloc | apply Kd.R_drewN | apply Kd.R_drew)); exact HO280.out))) (below_size (by repeat (first | (with_reducible first | exact HB.out | apply below_alloc | apply pw_below_drewN | apply below_drew1) | exact HB.out)))); have n2_ := Aside0.mk (below_step (by repeat (first | (with_reducible first | exact HB.out | apply below_alloc | apply pw_below_drewN | apply below_drew1) | exact HB.out)) hb); clear HO280; clear HB; have HO280 := n0_; have HO289 := n1_; have HB := n2_; clear n0_ n1_ n2_; (try clear hb); (try clear hb2); (try clear hk); (try clear hi); (try clear ho0); obtain ⟨Ao16, co16, eo16⟩ := Kd.R_slice HO289.out; subst eo16) | (go_at_call 32; (with_reducible refine (impl_NearestDepot.calls k _ _ t285 t286 t287 t290 t291 _ ?side1 ?side2 A8.out).mono ?_); (case side1 => repeat (first | exact (Kd.R_reads' HO289.out).2.2 | (with_reducible refine Kd.C_alloc ?_ _) | (with_reducible refine Kd.C_drewN ?_ _) | (with_reducible refine Kd.C_drew ?_))); (case side2 => exact (Kd.R_reads' HO289.out).2.1); rintro e w17 ⟨rfl, hb⟩; have n0_ := Aside0.mk (Kd.R_below (by (with_reducible repeat (first | apply Kd.R_alloc | apply Kd.R_drewN | apply Kd.R_drew)); exact HO280.out) hb); have n1_ := Aside0.mk (Kd.R_below (by (with_reducible repeat (first | apply Kd.R_alloc | apply Kd.R_drewN | apply Kd.R_drew)); exact HO289.out) hb); have n2_ := Aside0.mk (below_step (by repeat (first | (with_reducible first | exact HB.out | apply below_alloc | apply pw_below_drewN | apply below_drew1) | exact HB.out)) hb); clear HO280; clear HO289; clear HB; have HO280 := n0_; have HO289 := n1_; have HB := n2_; clear n0_ n1_ n2_; (try clear hb); (try clear hb2); (try clear hk); (try clear hi)) | (go_at_call 31; (with_reducible refine (spec_NearestDepot.calls k _ _ t285 t286 t287 t292 t293 _ ?side1 ?side2 A9.out).mono ?_); (case side1 => repeat (first | exact (Kd.R_reads' HO289.out).2.2 | (with_reducible refine Kd.C_alloc ?_ _) | (with_reducible refine Kd.C_drewN ?_ _) | (with_reducible refine Kd.C_drew ?_))); (case side2 => exact (Kd.R_reads' HO289.out).2.1); rintro e w18 ⟨rfl, hb⟩; have n0_ := Aside0.mk (Kd.R_below (by (with_reducible repeat (first | apply Kd.R_alloc | apply Kd.R_drewN | apply Kd.R_drew)); exact HO280.out) hb); have n1_ := Aside0.mk (Kd.R_below (by (with_reducible repeat (first | apply Kd.R_alloc | apply Kd.R_drewN | apply Kd.R_drew)); exact HO289.out) hb); have n2_ := Aside0.mk (below_step (by repeat (first | (with_reducible first | exact HB.out | apply below_alloc | apply pw_below_drewN | apply below_drew1) | exact HB.out)) hb); clear HO280; clear HO289; clear HB; have HO280 := n0_; have HO289 := n1_; have HB := n2_; clear n0_ n1_ n2_; (try clear hb); (try clear hb2); (try clear hk); (try clear hi))); go_upto_region 9 with (first | (go_at_call 24; (with_reducible refine (laws_big.calls _ _ l0 false _ ?side1 ?side2 A2.out).mono ?_); (case side1 => repeat (first | exact HR0.out | (with_reducible refine Kd.C_alloc ?_ _) | (with_reducible refine Kd.C_drewN ?_ _) | (with_reducible refine Kd.C_drew ?_))); (case side2 => exact HC0.out); rintro e w' ⟨rfl, ⟨nd, rfl⟩⟩; (try first | exact ⟨rfl, _, World.drewN_drewN _ _ _⟩ | exact ⟨rfl, _, Eq.trans (World.drewN_drewN _ _ _) (congrArg (World.drewN _) (Nat.add_assoc _ _ _))⟩)) | (go_at_call 38; (with_reducible refine (spec_DrawGramsNear.calls k _ _ l0 t275 t276 t277 t278 _ ?side1 ?side2 A4.out).mono ?_); (case side1 => repeat (first | exact HR0.out | (with_reducible refine Kd.C_alloc ?_ _) | (with_reducible refine Kd.C_drewN ?_ _) | (with_reducible refine Kd.C_drew ?_))); (case side2 => exact HC0.out); rintro e w11 ⟨v279, rfl, ho0, hb⟩; have n0_ := Aside0.mk (Kd.R_lower ho0 (below_size (by repeat (first | (with_reducible first | exact HB.out | apply below_alloc | apply pw_below_drewN | apply below_drew1) | exact HB.out)))); have n1_ := Aside0.mk (below_step (by repeat (first | (with_reducible first | exact HB.out | apply below_alloc | apply pw_below_drewN | apply below_drew1) | exact HB.out)) hb); clear HB; have HO280 := n0_; have HB := n1_; clear n0_ n1_; (try clear hb); (try clear hb2); (try clear hk); (try clear hi); (try clear ho0); obtain ⟨Ao12, co12, eo12⟩ := Kd.R_slice HO280.out; subst eo12) | (go_at_call 30; (with_reducible refine (impl_GramsNear.calls k _ _ t275 t276 t277 t278 t281 t282 _ ?side1 ?side2 A5.out).mono ?_); (case side1 => repeat (first | exact (Kd.R_reads' HO280.out).2.2 | (with_reducible refine Kd.C_alloc ?_ _) | (with_reducible refine Kd.C_drewN ?_ _) | (with_reducible refine Kd.C_drew ?_))); (case side2 => exact (Kd.R_reads' HO280.out).2.1); rintro e w13 ⟨rfl, hb⟩; have n0_ := Aside0.mk (Kd.R_below (by (with_reducible repeat (first | apply Kd.R_alloc | apply Kd.R_drewN | apply Kd.R_drew)); exact HO280.out) hb); have n1_ := Aside0.mk (below_step (by repeat (first | (with_reducible first | exact HB.out | apply below_alloc | apply pw_below_drewN | apply below_drew1) | exact HB.out)) hb); clear HO280; clear HB; have HO280 := n0_; have HB := n1_; clear n0_ n1_; (try clear hb); (try clear hb2); (try clear hk); (try clear hi)) | (go_at_call 29; (with_reducible refine (spec_GramsNear.calls k _ _ t275 t276 t277 t278 t283 t284 _ ?side1 ?side2 A6.out).mono ?_); (case side1 => repeat (first | exact (Kd.R_reads' HO280.out).2.2 | (with_reducible refine Kd.C_alloc ?_ _) | (with_reducible refine Kd.C_drewN ?_ _) | (with_reducible refine Kd.C_drew ?_))); (case side2 => exact (Kd.R_reads' HO280.out).2.1); rintro e w14 ⟨rfl, hb⟩; have n0_ := Aside0.mk (Kd.R_below (by (with_reducible repeat (first | apply Kd.R_alloc | apply Kd.R_drewN | apply Kd.R_drew)); exact HO280.out) hb); have n1_ := Aside0.mk (below_step (by repeat (first | (with_reducible first | exact HB.out | apply below_alloc | apply pw_below_drewN | apply below_drew1) | exact HB.out)) hb); clear HO280; clear HB; have HO280 := n0_; have HB := n1_; clear n0_ n1_; (try clear hb); (try clear hb2); (try clear hk); (try clear hi)) | (go_at_call 39; (with_reducible refine (spec_DrawNearestDepot.calls k _ _ l0 t285 t286 t287 _ ?side1 ?side2 A7.out).mono ?_); (case side1 => repeat (first | exact HR0.out | exact (Kd.C_below HR0.out HB.out) | (with_reducible refine Kd.C_alloc ?_ _) | (with_reducible refine Kd.C_drewN ?_ _) | (with_reducible refine Kd.C_drew ?_))); (case side2 => exact HC0.out); rintro e w15 ⟨v288, rfl, ho0, hb⟩; have n0_ := Aside0.mk (Kd.R_elder' (by (with_reducible repeat (first | apply Kd.R_alloc | apply Kd.R_drewN | apply Kd.R_drew)); exact HO280.out) (Kd.R_base ho0) hb); have n1_ := Aside0.mk (Kd.R_lower (Kd.R_new' ho0 (Kd.R_lt (by (with_reducible repeat (first | apply Kd.R_alloc | apply Kd.R_drewN | apply Kd.R_drew)); exact HO280.out))) (below_size (by repeat (first | (with_reducible first | exact HB.out | apply below_alloc | apply pw_below_drewN | apply below_drew1) | exact HB.out)))); have n2_ := Aside0.mk (below_step (by repeat (first | (with_reducible first | exact HB.out | apply below_alloc | apply pw_below_drewN | apply below_drew1) | exact HB.out)) hb); clear HO280; clear HB; have HO280 := n0_; have HO289 := n1_; have HB := n2_; clear n0_ n1_ n2_; (try clear hb); (try clear hb2); (try clear hk); (try clear hi); (try clear ho0); obtain ⟨Ao16, co16, eo16⟩ := Kd.R_slice HO289.out; subst eo16) | (go_at_call 32; (with_reducible refine (impl_NearestDepot.calls k _ _ t285 t286 t287 t290 t291 _ ?side1 ?side2 A8.out).mono ?_); (case side1 => repeat (first | exact (Kd.R_reads' HO289.out).2.2 | (with_reducible refine Kd.C_alloc ?_ _) | (with_reducible refine Kd.C_drewN ?_ _) | (with_reducible refine Kd.C_drew ?_))); (case side2 => exact (Kd.R_reads' HO289.out).2.1); rintro e w17 ⟨rfl, hb⟩; have n0_ := Aside0.mk (Kd.R_below (by (with_reducible repeat (first | apply Kd.R_alloc | apply Kd.R_drewN | apply Kd.R_drew)); exact HO280.out) hb); have n1_ := Aside0.mk (Kd.R_below (by (with_reducible repeat (first | apply Kd.R_alloc | apply Kd.R_drewN | apply Kd.R_drew)); exact HO289.out) hb); have n2_ := Aside0.mk (below_step (by repeat (first | (with_reducible first | exact HB.out | apply below_alloc | apply pw_below_drewN | apply below_drew1) | exact HB.out)) hb); clear HO280; clear HO289; clear HB; have HO280 := n0_; have HO289 := n1_; have HB := n2_; clear n0_ n1_ n2_; (try clear hb); (try clear hb2); (try clear hk); (try clear hi)) | (go_at_call 31; (with_reducible refine (spec_NearestDepot.calls k _ _ t285 t286 t287 t292 t293 _ ?side1 ?side2 A9.out).mono ?_); (case side1 => repeat (first | exact (Kd.R_reads' HO289.out).2.2 | (with_reducible refine Kd.C_alloc ?_ _) | (with_reducible refine Kd.C_drewN ?_ _) | (with_reducible refine Kd.C_drew ?_))); (case side2 => exact (Kd.R_reads' HO289.out).2.1); rintro e w18 ⟨rfl, hb⟩; have n0_ := Aside0.mk (Kd.R_below (by (with_reducible repeat (first | apply Kd.R_alloc | apply Kd.R_drewN | apply Kd.R_drew)); exact HO280.out) hb); have n1_ := Aside0.mk (Kd.R_below (by (with_reducible repeat (first | apply Kd.R_alloc | apply Kd.R_drewN | apply Kd.R_drew)); exact HO289.out) hb); have n2_ := Aside0.mk (below_step (by repeat (first | (with_reducible first | exact HB.out | apply below_alloc | apply pw_below_drewN | apply below_drew1) | exact HB.out)) hb); clear HO280; clear HO289; clear HB; have HO280 := n0_; have HO289 := n1_; have HB := n2_; clear n0_ n1_ n2_; (try clear hb); (try clear hb2); (try clear hk); (try clear hi))))
    (try simp only [Act.put, List.setIfInBounds_toArray, List.set_cons_zero, List.set_cons_succ])
    go_cut [85] (fun v85 wc => ∃ (kq : Nat) (x85_9 : Bool), v85 = .bool x85_9 ∧ Aside0 (laws_FnNearDepots.j0 kq l0 t275 t276 t277 t278 t281 t282 t285 t286 t287 t290 t291 x85_9 = some r) ∧ Aside0 (kq ≤ k) ∧ Aside0 (Kd.R k51 51 wc w.heap.size (fun k_ => some k_ ≠ ((.slice Ao16 t285.length co16) : Value).ownBlock) (.slice Ao12 t275.length co12) t275) ∧ Aside0 (Kd.R k51 51 wc w.heap.size (fun k_ => some k_ ≠ ((.slice Ao12 t275.length co12) : Value).ownBlock) (.slice Ao16 t285.length co16) t285) ∧ Aside0 (Below w.heap.size w wc))
    case first =>
      have H := HC10.out
      clear HC10
      by_cases c19 : t282 = t284
      · rw [if_pos c19] at H
        have c19b0 : (t282 == t284) = true := beq_iff_eq.mpr c19
        have c19b1 : (t282 != t284) = false := bne_eq_false_iff_eq.mpr c19
        clear c19
        (first | rw [c19b0] | (simp only [i64_w, i32_w]; rw [c19b0]) | skip)
        by_cases c20 : t281 = t283
        · rw [if_pos c20] at H
          have c20b0 : (t281 == t283) = true := beq_iff_eq.mpr c20
          have c20b1 : (t281 != t283) = false := bne_eq_false_iff_eq.mpr c20
          clear c20
          by_cases c21 : t291 = t293
          · rw [if_pos c21] at H
            have c21b0 : (t291 == t293) = true := beq_iff_eq.mpr c21
            have c21b1 : (t291 != t293) = false := bne_eq_false_iff_eq.mpr c21
            clear c21
            have H' := Aside0.mk H
            clear H
            go_wp2
            repeat (go_quiet (fail); try go_wp2)
            go_meet
            case rel => exact ⟨_, ((t290 != t292)), (by first | rfl | (simp; done) | (simp [*]; done)), H', ⟨by first | omega | exact Nat.le_refl _⟩, ⟨by (with_reducible repeat (first | apply Kd.R_alloc | apply Kd.R_drewN | apply Kd.R_drew)); exact Kd.R_mono HO280.out (fun _ hk => hk.2)⟩, ⟨by (with_reducible repeat (first | apply Kd.R_alloc | apply Kd.R_drewN | apply Kd.R_drew)); exact Kd.R_mono HO289.out (fun _ hk => hk.2)⟩, ⟨by repeat (first | (with_reducible first | exact HB.out | apply below_alloc | apply pw_below_drewN | apply below_drew1) | exact HB.out)⟩⟩
          · rw [if_neg c21] at H
            have c21b0 : (t291 == t293) = false := beq_eq_false_iff_ne.mpr c21
            have c21b1 : (t291 != t293) = true := bne_iff_ne.mpr c21
            have H' := Aside0.mk H
            clear H
            go_wp2
            repeat (go_quiet (fail); try go_wp2)
            go_meet
            case rel => exact ⟨_, (true), (by first | rfl | (simp; done) | (simp [*]; done)), H', ⟨by first | omega | exact Nat.le_refl _⟩, ⟨by (with_reducible repeat (first | apply Kd.R_alloc | apply Kd.R_drewN | apply Kd.R_drew)); exact Kd.R_mono HO280.out (fun _ hk => hk.2)⟩, ⟨by (with_reducible repeat (first | apply Kd.R_alloc | apply Kd.R_drewN | apply Kd.R_drew)); exact Kd.R_mono HO289.out (fun _ hk => hk.2)⟩, ⟨by repeat (first | (with_reducible first | exact HB.out | apply below_alloc | apply pw_below_drewN | apply below_drew1) | exact HB.out)⟩⟩
        · rw [if_neg c20] at H
          have c20b0 : (t281 == t283) = false := beq_eq_false_iff_ne.mpr c20
          have c20b1 : (t281 != t283) = true := bne_iff_ne.mpr c20
          have H' := Aside0.mk H
          clear H
          go_wp2
          repeat (go_quiet (fail); try go_wp2)
          go_meet
          case rel => exact ⟨_, (true), (by first | rfl | (simp; done) | (simp [*]; done)), H', ⟨by first | omega | exact Nat.le_refl _⟩, ⟨by (with_reducible repeat (first | apply Kd.R_alloc | apply Kd.R_drewN | apply Kd.R_drew)); exact Kd.R_mono HO280.out (fun _ hk => hk.2)⟩, ⟨by (with_reducible repeat (first | apply Kd.R_alloc | apply Kd.R_drewN | apply Kd.R_drew)); exact Kd.R_mono HO289.out (fun _ hk => hk.2)⟩, ⟨by repeat (first | (with_reducible first | exact HB.out | apply below_alloc | apply pw_below_drewN | apply below_drew1) | exact HB.out)⟩⟩
      · rw [if_neg c19] at H
        have c19b0 : (t282 == t284) = false := beq_eq_false_iff_ne.mpr c19
        have c19b1 : (t282 != t284) = true := bne_iff_ne.mpr c19
        (first | rw [c19b0] | (simp only [i64_w, i32_w]; rw [c19b0]) | skip)
        have H' := Aside0.mk H
        clear H
        go_wp2
        repeat (go_quiet (fail); try go_wp2)
        go_meet
        case rel => exact ⟨_, (true), (by first | rfl | (simp; done) | (simp [*]; done)), H', ⟨by first | omega | exact Nat.le_refl _⟩, ⟨by (with_reducible repeat (first | apply Kd.R_alloc | apply Kd.R_drewN | apply Kd.R_drew)); exact Kd.R_mono HO280.out (fun _ hk => hk.2)⟩, ⟨by (with_reducible repeat (first | apply Kd.R_alloc | apply Kd.R_drewN | apply Kd.R_drew)); exact Kd.R_mono HO289.out (fun _ hk => hk.2)⟩, ⟨by repeat (first | (with_reducible first | exact HB.out | apply below_alloc | apply pw_below_drewN | apply below_drew1) | exact HB.out)⟩⟩
    case rest =>
      clear HC10
      try clear c1
      try clear c2
      try clear p2
      try clear c3
      try clear c10
      try clear c19
      try clear c19b0
      try clear c19b1
      try clear c20
      try clear c20b0
      try clear c20b1
      try clear c21
      try clear c21b0
      try clear c21b1
      obtain ⟨kq, x85_9, rfl, HA, HJ9, HO_3, HO_11, HB⟩ := hcut
      cases kq with
      | zero => exact absurd HA.out (by simp [laws_FnNearDepots.j0])
      | succ kj9 =>
        have H := HA.out
        clear HA
        simp only [laws_FnNearDepots.j0] at H
        by_cases c22 : x85_9 = true
        · subst c22
          have H1 : (some false) = some r := by rw [if_pos rfl] at H; exact H
          clear H
          have H := H1
          clear H1
          obtain rfl := Option.some.inj H
          go_wp2
          repeat (go_quiet (fail); try go_wp2)
          go_ret
          exact ⟨by first | rfl | (simp [errW_none, errW_some] <;> rfl) | (simp [*, errW_none, errW_some] <;> rfl), by repeat (first | (with_reducible first | exact HB.out | apply below_alloc | apply pw_below_drewN | apply below_drew1) | exact HB.out)⟩
        · replace c22 := Bool.eq_false_iff.mpr c22
          subst c22
          have H1 : (laws_FnNearDepots.l0 kj9 l0 t275 t276 t277 t278 t281 t282 t285 t286 t287 t290 t291 0) = some r := by rw [if_neg (show ¬ (false = true) by decide)] at H; exact H
          clear H
          have H := H1
          clear H1
          have H' := Aside0.mk H
          clear H
          go_wp2
          repeat (go_quiet (fail); try go_wp2)
          go_loopg [18] kj9 (fun kq v18 w' => ∃ (x18_2 : Int), v18 = .int .i64 x18_2 ∧ Aside0 (laws_FnNearDepots.l0 kq l0 t275 t276 t277 t278 t281 t282 t285 t286 t287 t290 t291 x18_2 = some r) ∧ Aside0 (kq ≤ kj9) ∧ Aside0 (Kd.R k51 51 w' w.heap.size (fun k_ => some k_ ≠ ((.slice Ao16 t285.length co16) : Value).ownBlock) (.slice Ao12 t275.length co12) t275) ∧ Aside0 (Kd.R k51 51 w' w.heap.size (fun k_ => some k_ ≠ ((.slice Ao12 t275.length co12) : Value).ownBlock) (.slice Ao16 t285.length co16) t285) ∧ Aside0 (Below w.heap.size w w'))
          case atStart => exact ⟨(0), (by first | rfl | (simp; done) | (simp [*]; done)), H', ⟨Nat.le_refl _⟩, ⟨by (with_reducible repeat (first | apply Kd.R_alloc | apply Kd.R_drewN | apply Kd.R_drew)); exact HO_3.out⟩, ⟨by (with_reducible repeat (first | apply Kd.R_alloc | apply Kd.R_drewN | apply Kd.R_drew)); exact HO_11.out⟩, ⟨by repeat (first | (with_reducible first | exact HB.out | apply below_alloc | apply pw_below_drewN | apply below_drew1) | exact HB.out)⟩⟩
          case round =>
            clear H'
            try clear c1
            try clear c2
            try clear p2
            try clear c3
            try clear c10
            try clear c19
            try clear c19b0
            try clear c19b1
            try clear c20
            try clear c20b0
            try clear c20b1
            try clear c21
            try clear c21b0
            try clear c21b1
            try clear c22
            try clear p2
            obtain ⟨x18_2, rfl, HA, HK2, HO_3, HO_11, HB⟩ := hrel
            cases gk with
            | zero => exact absurd HA.out (by simp [laws_FnNearDepots.l0])
            | succ k2 =>
              have H := HA.out
              clear HA
              simp only [laws_FnNearDepots.l0] at H
              have HC23 := Aside0.mk H
              clear H
              go_upto_region 12 with (fail)
              repeat (go_quiet (fail); go_upto_region 12 with (fail))
              go_cut [93] (fun v93 wc => ∃ (kq : Nat) (x93_22 : Bool), v93 = .bool x93_22 ∧ Aside0 (laws_FnNearDepots.j2 kq l0 t275 t276 t277 t278 t281 t282 t285 t286 t287 t290 t291 x18_2 x93_22 = some r) ∧ Aside0 (kq ≤ k2) ∧ Aside0 (Kd.R k51 51 wc w.heap.size (fun k_ => some k_ ≠ ((.slice Ao16 t285.length co16) : Value).ownBlock) (.slice Ao12 t275.length co12) t275) ∧ Aside0 (Kd.R k51 51 wc w.heap.size (fun k_ => some k_ ≠ ((.slice Ao12 t275.length co12) : Value).ownBlock) (.slice Ao16 t285.length co16) t285) ∧ Aside0 (Below w.heap.size w wc))
              case first =>
                have H := HC23.out
                clear HC23
                by_cases c24 : t291 = 0
                · rw [if_pos c24] at H
                  have c24b0 : (t291 == 0) = true := beq_iff_eq.mpr c24
                  have c24b1 : (t291 != 0) = false := bne_eq_false_iff_eq.mpr c24
                  clear c24
                  (first | rw [c24b0] | (simp only [i64_w, i32_w]; rw [c24b0]) | skip)
                  have H' := Aside0.mk H
                  clear H
                  go_wp2
                  repeat (go_quiet (fail); try go_wp2)
                  go_meet
                  case rel => exact ⟨_, (decide (x18_2 < (t285.length : Int))), (by first | rfl | (simp; done) | (simp [*]; done)), H', ⟨by have := HJ9.out; have := HK2.out; first | omega | exact Nat.le_refl _⟩, ⟨by (with_reducible repeat (first | apply Kd.R_alloc | apply Kd.R_drewN | apply Kd.R_drew)); exact HO_3.out⟩, ⟨by (with_reducible repeat (first | apply Kd.R_alloc | apply Kd.R_drewN | apply Kd.R_drew)); exact HO_11.out⟩, ⟨by repeat (first | (with_reducible first | exact HB.out | apply below_alloc | apply pw_below_drewN | apply below_drew1) | exact HB.out)⟩⟩
                · rw [if_neg c24] at H
                  have c24b0 : (t291 == 0) = false := beq_eq_false_iff_ne.mpr c24
                  have c24b1 : (t291 != 0) = true := bne_iff_ne.mpr c24
                  (first | rw [c24b0] | (simp only [i64_w, i32_w]; rw [c24b0]) | skip)
                  have H' := Aside0.mk H
                  clear H
                  go_wp2
                  repeat (go_quiet (fail); try go_wp2)
                  go_meet
                  case rel => exact ⟨_, (false), (by first | rfl | (simp; done) | (simp [*]; done)), H', ⟨by have := HJ9.out; have := HK2.out; first | omega | exact Nat.le_refl _⟩, ⟨by (with_reducible repeat (first | apply Kd.R_alloc | apply Kd.R_drewN | apply Kd.R_drew)); exact HO_3.out⟩, ⟨by (with_reducible repeat (first | apply Kd.R_alloc | apply Kd.R_drewN | apply Kd.R_drew)); exact HO_11.out⟩, ⟨by repeat (first | (with_reducible first | exact HB.out | apply below_alloc | apply pw_below_drewN | apply below_drew1) | exact HB.out)⟩⟩
              case rest =>
                clear HC23
                try clear c1
                try clear c2
                try clear p2
                try clear c3
                try clear c10
                try clear c19
                try clear c19b0
                try clear c19b1
                try clear c20
                try clear c20b0
                try clear c20b1
                try clear c21
                try clear c21b0
                try clear c21b1
                try clear c22
                try clear c24
                try clear c24b0
                try clear c24b1
                try clear p2
                obtain ⟨kq, x93_22, rfl, HA, HJ22, HO_3, HO_11, HB⟩ := hcut
                cases kq with
                | zero => exact absurd HA.out (by simp [laws_FnNearDepots.j2])
                | succ kj22 =>
                  have H := HA.out
                  clear HA
                  simp only [laws_FnNearDepots.j2] at H
                  by_cases c25 : x93_22 = true
                  · subst c25
                    have H1 : (if 0 ≤ t290 then (if t290 < (t285.length : Int) then (if 0 ≤ x18_2 then (if x18_2 < (t285.length : Int) then (if (wrap64 ((wrap64 ((wrap64 (((rd_T51 t285 x18_2).f0) - t286)) * (wrap64 (((rd_T51 t285 x18_2).f0) - t286)))) + (wrap64 ((wrap64 (((rd_T51 t285 x18_2).f1) - t287)) * (wrap64 (((rd_T51 t285 x18_2).f1) - t287)))))) < (wrap64 ((wrap64 ((wrap64 (((rd_T51 t285 t290).f0) - t286)) * (wrap64 (((rd_T51 t285 t290).f0) - t286)))) + (wrap64 ((wrap64 (((rd_T51 t285 t290).f1) - t287)) * (wrap64 (((rd_T51 t285 t290).f1) - t287)))))) then (some false) else (if (wrap64 ((wrap64 ((wrap64 (((rd_T51 t285 x18_2).f0) - t286)) * (wrap64 (((rd_T51 t285 x18_2).f0) - t286)))) + (wrap64 ((wrap64 (((rd_T51 t285 x18_2).f1) - t287)) * (wrap64 (((rd_T51 t285 x18_2).f1) - t287)))))) = (wrap64 ((wrap64 ((wrap64 (((rd_T51 t285 t290).f0) - t286)) * (wrap64 (((rd_T51 t285 t290).f0) - t286)))) + (wrap64 ((wrap64 (((rd_T51 t285 t290).f1) - t287)) * (wrap64 (((rd_T51 t285 t290).f1) - t287)))))) then (if x18_2 < t290 then (some false) else (laws_FnNearDepots.l0 kj22 l0 t275 t276 t277 t278 t281 t282 t285 t286 t287 t290 t291 (wrap64 (x18_2 + 1)))) else (laws_FnNearDepots.l0 kj22 l0 t275 t276 t277 t278 t281 t282 t285 t286 t287 t290 t291 (wrap64 (x18_2 + 1))))) else (none)) else (none)) else (none)) else (none)) = some r := by rw [if_pos rfl] at H; exact H
                    clear H
                    have H := H1
                    clear H1
                    by_cases c26 : 0 ≤ t290
                    · rw [if_pos c26] at H
                      have c26b0 : decide (0 ≤ t290) = true := decide_eq_true c26
                      clear c26
                      by_cases c27 : t290 < (t285.length : Int)
                      · rw [if_pos c27] at H
                        have c27b0 : decide (t290 < (t285.length : Int)) = true := decide_eq_true c27
                        clear c27
                        by_cases c28 : 0 ≤ x18_2
                        · rw [if_pos c28] at H
                          have c28b0 : decide (0 ≤ x18_2) = true := decide_eq_true c28
                          clear c28
                          by_cases c29 : x18_2 < (t285.length : Int)
                          · rw [if_pos c29] at H
                            have c29b0 : decide (x18_2 < (t285.length : Int)) = true := decide_eq_true c29
                            clear c29
                            by_cases c30 : (wrap64 ((wrap64 ((wrap64 (((rd_T51 t285 x18_2).f0) - t286)) * (wrap64 (((rd_T51 t285 x18_2).f0) - t286)))) + (wrap64 ((wrap64 (((rd_T51 t285 x18_2).f1) - t287)) * (wrap64 (((rd_T51 t285 x18_2).f1) - t287)))))) < (wrap64 ((wrap64 ((wrap64 (((rd_T51 t285 t290).f0) - t286)) * (wrap64 (((rd_T51 t285 t290).f0) - t286)))) + (wrap64 ((wrap64 (((rd_T51 t285 t290).f1) - t287)) * (wrap64 (((rd_T51 t285 t290).f1) - t287))))))
                            · rw [if_pos c30] at H
                              have c30b0 : decide ((wrap64 ((wrap64 ((wrap64 (((rd_T51 t285 x18_2).f0) - t286)) * (wrap64 (((rd_T51 t285 x18_2).f0) - t286)))) + (wrap64 ((wrap64 (((rd_T51 t285 x18_2).f1) - t287)) * (wrap64 (((rd_T51 t285 x18_2).f1) - t287)))))) < (wrap64 ((wrap64 ((wrap64 (((rd_T51 t285 t290).f0) - t286)) * (wrap64 (((rd_T51 t285 t290).f0) - t286)))) + (wrap64 ((wrap64 (((rd_T51 t285 t290).f1) - t287)) * (wrap64 (((rd_T51 t285 t290).f1) - t287))))))) = true := decide_eq_true c30
                              clear c30
                              obtain rfl := Option.some.inj H
                              have p294 : 0 ≤ (t290 : Int) := of_decide_eq_true (by first | (with_reducible assumption) | assumption)
                              have q294 : t290 < (t285.length : Int) := of_decide_eq_true (by first | (with_reducible assumption) | assumption)
                              obtain ⟨ad294, e294, hx294_0, hx294_1, hx294_2⟩ := at_T51 (Kd.R_reads' HO_11.out).2.2 t290 p294 q294
                              cases e294
                              replace p294 := eq_true p294
                              replace q294 := eq_true q294
                              have p295 : 0 ≤ (t290 : Int) := of_decide_eq_true (by first | (with_reducible assumption) | assumption)
                              have q295 : t290 < (t285.length : Int) := of_decide_eq_true (by first | (with_reducible assumption) | assumption)
                              obtain ⟨ad295, e295, hx295_0, hx295_1, hx295_2⟩ := at_T51 (Kd.R_reads' HO_11.out).2.2 t290 p295 q295
                              obtain rfl : ad294 = ad295 := (by injection e295)
                              replace p295 := eq_true p295
                              replace q295 := eq_true q295
                              have p296 : 0 ≤ (t290 : Int) := of_decide_eq_true (by first | (with_reducible assumption) | assumption)
                              have q296 : t290 < (t285.length : Int) := of_decide_eq_true (by first | (with_reducible assumption) | assumption)
                              obtain ⟨ad296, e296, hx296_0, hx296_1, hx296_2⟩ := at_T51 (Kd.R_reads' HO_11.out).2.2 t290 p296 q296
                              obtain rfl : ad294 = ad296 := (by injection e296)
                              replace p296 := eq_true p296
                              replace q296 := eq_true q296
                              have p297 : 0 ≤ (t290 : Int) := of_decide_eq_true (by first | (with_reducible assumption) | assumption)
                              have q297 : t290 < (t285.length : Int) := of_decide_eq_true (by first | (with_reducible assumption) | assumption)
                              obtain ⟨ad297, e297, hx297_0, hx297_1, hx297_2⟩ := at_T51 (Kd.R_reads' HO_11.out).2.2 t290 p297 q297
                              obtain rfl : ad294 = ad297 := (by injection e297)
                              replace p297 := eq_true p297
                              replace q297 := eq_true q297
                              have p298 : 0 ≤ (x18_2 : Int) := of_decide_eq_true (by first | (with_reducible assumption) | assumption)
                              have q298 : x18_2 < (t285.length : Int) := of_decide_eq_true (by first | (with_reducible assumption) | assumption)
                              obtain ⟨ad298, e298, hx298_0, hx298_1, hx298_2⟩ := at_T51 (Kd.R_reads' HO_11.out).2.2 x18_2 p298 q298
                              obtain rfl : ad294 = ad298 := (by injection e298)
                              replace p298 := eq_true p298
                              replace q298 := eq_true q298
                              have p299 : 0 ≤ (x18_2 : Int) := of_decide_eq_true (by first | (with_reducible assumption) | assumption)
                              have q299 : x18_2 < (t285.length : Int) := of_decide_eq_true (by first | (with_reducible assumption) | assumption)
                              obtain ⟨ad299, e299, hx299_0, hx299_1, hx299_2⟩ := at_T51 (Kd.R_reads' HO_11.out).2.2 x18_2 p299 q299
                              obtain rfl : ad294 = ad299 := (by injection e299)
                              replace p299 := eq_true p299
                              replace q299 := eq_true q299
                              have p300 : 0 ≤ (x18_2 : Int) := of_decide_eq_true (by first | (with_reducible assumption) | assumption)
                              have q300 : x18_2 < (t285.length : Int) := of_decide_eq_true (by first | (with_reducible assumption) | assumption)
                              obtain ⟨ad300, e300, hx300_0, hx300_1, hx300_2⟩ := at_T51 (Kd.R_reads' HO_11.out).2.2 x18_2 p300 q300
                              obtain rfl : ad294 = ad300 := (by injection e300)
                              replace p300 := eq_true p300
                              replace q300 := eq_true q300
                              have p301 : 0 ≤ (x18_2 : Int) := of_decide_eq_true (by first | (with_reducible assumption) | assumption)
                              have q301 : x18_2 < (t285.length : Int) := of_decide_eq_true (by first | (with_reducible assumption) | assumption)
                              obtain ⟨ad301, e301, hx301_0, hx301_1, hx301_2⟩ := at_T51 (Kd.R_reads' HO_11.out).2.2 x18_2 p301 q301
                              obtain rfl : ad294 = ad301 := (by injection e301)
                              replace p301 := eq_true p301
                              replace q301 := eq_true q301
                              go_wp2
                              repeat (go_quiet (fail); try go_wp2)
                              go_ret
                              exact ⟨by first | rfl | (simp [errW_none, errW_some] <;> rfl) | (simp [*, errW_none, errW_some] <;> rfl), by repeat (first | (with_reducible first | exact HB.out | apply below_alloc | apply pw_below_drewN | apply below_drew1) | exact HB.out)⟩
                            · rw [if_neg c30] at H
                              have c30b0 : decide ((wrap64 ((wrap64 ((wrap64 (((rd_T51 t285 x18_2).f0) - t286)) * (wrap64 (((rd_T51 t285 x18_2).f0) - t286)))) + (wrap64 ((wrap64 (((rd_T51 t285 x18_2).f1) - t287)) * (wrap64 (((rd_T51 t285 x18_2).f1) - t287)))))) < (wrap64 ((wrap64 ((wrap64 (((rd_T51 t285 t290).f0) - t286)) * (wrap64 (((rd_T51 t285 t290).f0) - t286)))) + (wrap64 ((wrap64 (((rd_T51 t285 t290).f1) - t287)) * (wrap64 (((rd_T51 t285 t290).f1) - t287))))))) = false := decide_eq_false c30
                              clear c30
                              by_cases c31 : (wrap64 ((wrap64 ((wrap64 (((rd_T51 t285 x18_2).f0) - t286)) * (wrap64 (((rd_T51 t285 x18_2).f0) - t286)))) + (wrap64 ((wrap64 (((rd_T51 t285 x18_2).f1) - t287)) * (wrap64 (((rd_T51 t285 x18_2).f1) - t287)))))) = (wrap64 ((wrap64 ((wrap64 (((rd_T51 t285 t290).f0) - t286)) * (wrap64 (((rd_T51 t285 t290).f0) - t286)))) + (wrap64 ((wrap64 (((rd_T51 t285 t290).f1) - t287)) * (wrap64 (((rd_T51 t285 t290).f1) - t287))))))
                              · rw [if_pos c31] at H
                                have c31b0 : ((wrap64 ((wrap64 ((wrap64 (((rd_T51 t285 x18_2).f0) - t286)) * (wrap64 (((rd_T51 t285 x18_2).f0) - t286)))) + (wrap64 ((wrap64 (((rd_T51 t285 x18_2).f1) - t287)) * (wrap64 (((rd_T51 t285 x18_2).f1) - t287)))))) == (wrap64 ((wrap64 ((wrap64 (((rd_T51 t285 t290).f0) - t286)) * (wrap64 (((rd_T51 t285 t290).f0) - t286)))) + (wrap64 ((wrap64 (((rd_T51 t285 t290).f1) - t287)) * (wrap64 (((rd_T51 t285 t290).f1) - t287))))))) = true := beq_iff_eq.mpr c31
                                have c31b1 : ((wrap64 ((wrap64 ((wrap64 (((rd_T51 t285 x18_2).f0) - t286)) * (wrap64 (((rd_T51 t285 x18_2).f0) - t286)))) + (wrap64 ((wrap64 (((rd_T51 t285 x18_2).f1) - t287)) * (wrap64 (((rd_T51 t285 x18_2).f1) - t287)))))) != (wrap64 ((wrap64 ((wrap64 (((rd_T51 t285 t290).f0) - t286)) * (wrap64 (((rd_T51 t285 t290).f0) - t286)))) + (wrap64 ((wrap64 (((rd_T51 t285 t290).f1) - t287)) * (wrap64 (((rd_T51 t285 t290).f1) - t287))))))) = false := bne_eq_false_iff_eq.mpr c31
                                clear c31
                                by_cases c32 : x18_2 < t290
                                · rw [if_pos c32] at H
                                  have c32b0 : decide (x18_2 < t290) = true := decide_eq_true c32
                                  clear c32
                                  obtain rfl := Option.some.inj H
                                  have p294 : 0 ≤ (t290 : Int) := of_decide_eq_true (by first | (with_reducible assumption) | assumption)
                                  have q294 : t290 < (t285.length : Int) := of_decide_eq_true (by first | (with_reducible assumption) | assumption)
                                  obtain ⟨ad294, e294, hx294_0, hx294_1, hx294_2⟩ := at_T51 (Kd.R_reads' HO_11.out).2.2 t290 p294 q294
                                  cases e294
                                  replace p294 := eq_true p294
                                  replace q294 := eq_true q294
                                  have p295 : 0 ≤ (t290 : Int) := of_decide_eq_true (by first | (with_reducible assumption) | assumption)
                                  have q295 : t290 < (t285.length : Int) := of_decide_eq_true (by first | (with_reducible assumption) | assumption)
                                  obtain ⟨ad295, e295, hx295_0, hx295_1, hx295_2⟩ := at_T51 (Kd.R_reads' HO_11.out).2.2 t290 p295 q295
                                  obtain rfl : ad294 = ad295 := (by injection e295)
                                  replace p295 := eq_true p295
                                  replace q295 := eq_true q295
                                  have p296 : 0 ≤ (t290 : Int) := of_decide_eq_true (by first | (with_reducible assumption) | assumption)
                                  have q296 : t290 < (t285.length : Int) := of_decide_eq_true (by first | (with_reducible assumption) | assumption)
                                  obtain ⟨ad296, e296, hx296_0, hx296_1, hx296_2⟩ := at_T51 (Kd.R_reads' HO_11.out).2.2 t290 p296 q296
                                  obtain rfl : ad294 = ad296 := (by injection e296)
                                  replace p296 := eq_true p296
                                  replace q296 := eq_true q296
                                  have p297 : 0 ≤ (t290 : Int) := of_decide_eq_true (by first | (with_reducible assumption) | assumption)
                                  have q297 : t290 < (t285.length : Int) := of_decide_eq_true (by first | (with_reducible assumption) | assumption)
                                  obtain ⟨ad297, e297, hx297_0, hx297_1, hx297_2⟩ := at_T51 (Kd.R_reads' HO_11.out).2.2 t290 p297 q297
                                  obtain rfl : ad294 = ad297 := (by injection e297)
                                  replace p297 := eq_true p297
                                  replace q297 := eq_true q297
                                  have p298 : 0 ≤ (x18_2 : Int) := of_decide_eq_true (by first | (with_reducible assumption) | assumption)
                                  have q298 : x18_2 < (t285.length : Int) := of_decide_eq_true (by first | (with_reducible assumption) | assumption)
                                  obtain ⟨ad298, e298, hx298_0, hx298_1, hx298_2⟩ := at_T51 (Kd.R_reads' HO_11.out).2.2 x18_2 p298 q298
                                  obtain rfl : ad294 = ad298 := (by injection e298)
                                  replace p298 := eq_true p298
                                  replace q298 := eq_true q298
                                  have p299 : 0 ≤ (x18_2 : Int) := of_decide_eq_true (by first | (with_reducible assumption) | assumption)
                                  have q299 : x18_2 < (t285.length : Int) := of_decide_eq_true (by first | (with_reducible assumption) | assumption)
                                  obtain ⟨ad299, e299, hx299_0, hx299_1, hx299_2⟩ := at_T51 (Kd.R_reads' HO_11.out).2.2 x18_2 p299 q299
                                  obtain rfl : ad294 = ad299 := (by injection e299)
                                  replace p299 := eq_true p299
                                  replace q299 := eq_true q299
                                  have p300 : 0 ≤ (x18_2 : Int) := of_decide_eq_true (by first | (with_reducible assumption) | assumption)
                                  have q300 : x18_2 < (t285.length : Int) := of_decide_eq_true (by first | (with_reducible assumption) | assumption)
                                  obtain ⟨ad300, e300, hx300_0, hx300_1, hx300_2⟩ := at_T51 (Kd.R_reads' HO_11.out).2.2 x18_2 p300 q300
                                  obtain rfl : ad294 = ad300 := (by injection e300)
                                  replace p300 := eq_true p300
                                  replace q300 := eq_true q300
                                  have p301 : 0 ≤ (x18_2 : Int) := of_decide_eq_true (by first | (with_reducible assumption) | assumption)
                                  have q301 : x18_2 < (t285.length : Int) := of_decide_eq_true (by first | (with_reducible assumption) | assumption)
                                  obtain ⟨ad301, e301, hx301_0, hx301_1, hx301_2⟩ := at_T51 (Kd.R_reads' HO_11.out).2.2 x18_2 p301 q301
                                  obtain rfl : ad294 = ad301 := (by injection e301)
                                  replace p301 := eq_true p301
                                  replace q301 := eq_true q301
                                  go_wp2
                                  repeat (go_quiet (fail); try go_wp2)
                                  go_ret
                                  exact ⟨by first | rfl | (simp [errW_none, errW_some] <;> rfl) | (simp [*, errW_none, errW_some] <;> rfl), by repeat (first | (with_reducible first | exact HB.out | apply below_alloc | apply pw_below_drewN | apply below_drew1) | exact HB.out)⟩
                                · rw [if_neg c32] at H
                                  have c32b0 : decide (x18_2 < t290) = false := decide_eq_false c32
                                  clear c32
                                  have H' := Aside0.mk H
                                  clear H
                                  have p294 : 0 ≤ (t290 : Int) := of_decide_eq_true (by first | (with_reducible assumption) | assumption)
                                  have q294 : t290 < (t285.length : Int) := of_decide_eq_true (by first | (with_reducible assumption) | assumption)
                                  obtain ⟨ad294, e294, hx294_0, hx294_1, hx294_2⟩ := at_T51 (Kd.R_reads' HO_11.out).2.2 t290 p294 q294
                                  cases e294
                                  replace p294 := eq_true p294
                                  replace q294 := eq_true q294
                                  have p295 : 0 ≤ (t290 : Int) := of_decide_eq_true (by first | (with_reducible assumption) | assumption)
                                  have q295 : t290 < (t285.length : Int) := of_decide_eq_true (by first | (with_reducible assumption) | assumption)
                                  obtain ⟨ad295, e295, hx295_0, hx295_1, hx295_2⟩ := at_T51 (Kd.R_reads' HO_11.out).2.2 t290 p295 q295
                                  obtain rfl : ad294 = ad295 := (by injection e295)
                                  replace p295 := eq_true p295
                                  replace q295 := eq_true q295
                                  have p296 : 0 ≤ (t290 : Int) := of_decide_eq_true (by first | (with_reducible assumption) | assumption)
                                  have q296 : t290 < (t285.length : Int) := of_decide_eq_true (by first | (with_reducible assumption) | assumption)
                                  obtain ⟨ad296, e296, hx296_0, hx296_1, hx296_2⟩ := at_T51 (Kd.R_reads' HO_11.out).2.2 t290 p296 q296
                                  obtain rfl : ad294 = ad296 := (by injection e296)
                                  replace p296 := eq_true p296
                                  replace q296 := eq_true q296
                                  have p297 : 0 ≤ (t290 : Int) := of_decide_eq_true (by first | (with_reducible assumption) | assumption)
                                  have q297 : t290 < (t285.length : Int) := of_decide_eq_true (by first | (with_reducible assumption) | assumption)
                                  obtain ⟨ad297, e297, hx297_0, hx297_1, hx297_2⟩ := at_T51 (Kd.R_reads' HO_11.out).2.2 t290 p297 q297
                                  obtain rfl : ad294 = ad297 := (by injection e297)
                                  replace p297 := eq_true p297
                                  replace q297 := eq_true q297
                                  have p298 : 0 ≤ (x18_2 : Int) := of_decide_eq_true (by first | (with_reducible assumption) | assumption)
                                  have q298 : x18_2 < (t285.length : Int) := of_decide_eq_true (by first | (with_reducible assumption) | assumption)
                                  obtain ⟨ad298, e298, hx298_0, hx298_1, hx298_2⟩ := at_T51 (Kd.R_reads' HO_11.out).2.2 x18_2 p298 q298
                                  obtain rfl : ad294 = ad298 := (by injection e298)
                                  replace p298 := eq_true p298
                                  replace q298 := eq_true q298
                                  have p299 : 0 ≤ (x18_2 : Int) := of_decide_eq_true (by first | (with_reducible assumption) | assumption)
                                  have q299 : x18_2 < (t285.length : Int) := of_decide_eq_true (by first | (with_reducible assumption) | assumption)
                                  obtain ⟨ad299, e299, hx299_0, hx299_1, hx299_2⟩ := at_T51 (Kd.R_reads' HO_11.out).2.2 x18_2 p299 q299
                                  obtain rfl : ad294 = ad299 := (by injection e299)
                                  replace p299 := eq_true p299
                                  replace q299 := eq_true q299
                                  have p300 : 0 ≤ (x18_2 : Int) := of_decide_eq_true (by first | (with_reducible assumption) | assumption)
                                  have q300 : x18_2 < (t285.length : Int) := of_decide_eq_true (by first | (with_reducible assumption) | assumption)
                                  obtain ⟨ad300, e300, hx300_0, hx300_1, hx300_2⟩ := at_T51 (Kd.R_reads' HO_11.out).2.2 x18_2 p300 q300
                                  obtain rfl : ad294 = ad300 := (by injection e300)
                                  replace p300 := eq_true p300
                                  replace q300 := eq_true q300
                                  have p301 : 0 ≤ (x18_2 : Int) := of_decide_eq_true (by first | (with_reducible assumption) | assumption)
                                  have q301 : x18_2 < (t285.length : Int) := of_decide_eq_true (by first | (with_reducible assumption) | assumption)
                                  obtain ⟨ad301, e301, hx301_0, hx301_1, hx301_2⟩ := at_T51 (Kd.R_reads' HO_11.out).2.2 x18_2 p301 q301
                                  obtain rfl : ad294 = ad301 := (by injection e301)
                                  replace p301 := eq_true p301
                                  replace q301 := eq_true q301
                                  go_wp2
                                  repeat (go_quiet (fail); try go_wp2)
                                  go_roundg kj22
                                  case measure => have := HJ9.out; have := HK2.out; have := HJ22.out; omega
                                  case rel => exact ⟨(wrap64 (x18_2 + 1)), (by first | rfl | (simp; done) | (simp [*]; done)), H', ⟨by have := HJ9.out; have := HK2.out; have := HJ22.out; omega⟩, ⟨by (with_reducible repeat (first | apply Kd.R_alloc | apply Kd.R_drewN | apply Kd.R_drew)); exact HO_3.out⟩, ⟨by (with_reducible repeat (first | apply Kd.R_alloc | apply Kd.R_drewN | apply Kd.R_drew)); exact HO_11.out⟩, ⟨by repeat (first | (with_reducible first | exact HB.out | apply below_alloc | apply pw_below_drewN | apply below_drew1) | exact HB.out)⟩⟩
                              · rw [if_neg c31] at H
                                have c31b0 : ((wrap64 ((wrap64 ((wrap64 (((rd_T51 t285 x18_2).f0) - t286)) * (wrap64 (((rd_T51 t285 x18_2).f0) - t286)))) + (wrap64 ((wrap64 (((rd_T51 t285 x18_2).f1) - t287)) * (wrap64 (((rd_T51 t285 x18_2).f1) - t287)))))) == (wrap64 ((wrap64 ((wrap64 (((rd_T51 t285 t290).f0) - t286)) * (wrap64 (((rd_T51 t285 t290).f0) - t286)))) + (wrap64 ((wrap64 (((rd_T51 t285 t290).f1) - t287)) * (wrap64 (((rd_T51 t285 t290).f1) - t287))))))) = false := beq_eq_false_iff_ne.mpr c31
                                have c31b1 : ((wrap64 ((wrap64 ((wrap64 (((rd_T51 t285 x18_2).f0) - t286)) * (wrap64 (((rd_T51 t285 x18_2).f0) - t286)))) + (wrap64 ((wrap64 (((rd_T51 t285 x18_2).f1) - t287)) * (wrap64 (((rd_T51 t285 x18_2).f1) - t287)))))) != (wrap64 ((wrap64 ((wrap64 (((rd_T51 t285 t290).f0) - t286)) * (wrap64 (((rd_T51 t285 t290).f0) - t286)))) + (wrap64 ((wrap64 (((rd_T51 t285 t290).f1) - t287)) * (wrap64 (((rd_T51 t285 t290).f1) - t287))))))) = true := bne_iff_ne.mpr c31
                                have H' := Aside0.mk H
                                clear H
                                have p294 : 0 ≤ (t290 : Int) := of_decide_eq_true (by first | (with_reducible assumption) | assumption)
                                have q294 : t290 < (t285.length : Int) := of_decide_eq_true (by first | (with_reducible assumption) | assumption)
                                obtain ⟨ad294, e294, hx294_0, hx294_1, hx294_2⟩ := at_T51 (Kd.R_reads' HO_11.out).2.2 t290 p294 q294
                                cases e294
                                replace p294 := eq_true p294
                                replace q294 := eq_true q294
                                have p295 : 0 ≤ (t290 : Int) := of_decide_eq_true (by first | (with_reducible assumption) | assumption)
                                have q295 : t290 < (t285.length : Int) := of_decide_eq_true (by first | (with_reducible assumption) | assumption)
                                obtain ⟨ad295, e295, hx295_0, hx295_1, hx295_2⟩ := at_T51 (Kd.R_reads' HO_11.out).2.2 t290 p295 q295
                                obtain rfl : ad294 = ad295 := (by injection e295)
                                replace p295 := eq_true p295
                                replace q295 := eq_true q295
                                have p296 : 0 ≤ (t290 : Int) := of_decide_eq_true (by first | (with_reducible assumption) | assumption)
                                have q296 : t290 < (t285.length : Int) := of_decide_eq_true (by first | (with_reducible assumption) | assumption)
                                obtain ⟨ad296, e296, hx296_0, hx296_1, hx296_2⟩ := at_T51 (Kd.R_reads' HO_11.out).2.2 t290 p296 q296
                                obtain rfl : ad294 = ad296 := (by injection e296)
                                replace p296 := eq_true p296
                                replace q296 := eq_true q296
                                have p297 : 0 ≤ (t290 : Int) := of_decide_eq_true (by first | (with_reducible assumption) | assumption)
                                have q297 : t290 < (t285.length : Int) := of_decide_eq_true (by first | (with_reducible assumption) | assumption)
                                obtain ⟨ad297, e297, hx297_0, hx297_1, hx297_2⟩ := at_T51 (Kd.R_reads' HO_11.out).2.2 t290 p297 q297
                                obtain rfl : ad294 = ad297 := (by injection e297)
                                replace p297 := eq_true p297
                                replace q297 := eq_true q297
                                have p298 : 0 ≤ (x18_2 : Int) := of_decide_eq_true (by first | (with_reducible assumption) | assumption)
                                have q298 : x18_2 < (t285.length : Int) := of_decide_eq_true (by first | (with_reducible assumption) | assumption)
                                obtain ⟨ad298, e298, hx298_0, hx298_1, hx298_2⟩ := at_T51 (Kd.R_reads' HO_11.out).2.2 x18_2 p298 q298
                                obtain rfl : ad294 = ad298 := (by injection e298)
                                replace p298 := eq_true p298
                                replace q298 := eq_true q298
                                have p299 : 0 ≤ (x18_2 : Int) := of_decide_eq_true (by first | (with_reducible assumption) | assumption)
                                have q299 : x18_2 < (t285.length : Int) := of_decide_eq_true (by first | (with_reducible assumption) | assumption)
                                obtain ⟨ad299, e299, hx299_0, hx299_1, hx299_2⟩ := at_T51 (Kd.R_reads' HO_11.out).2.2 x18_2 p299 q299
                                obtain rfl : ad294 = ad299 := (by injection e299)
                                replace p299 := eq_true p299
                                replace q299 := eq_true q299
                                have p300 : 0 ≤ (x18_2 : Int) := of_decide_eq_true (by first | (with_reducible assumption) | assumption)
                                have q300 : x18_2 < (t285.length : Int) := of_decide_eq_true (by first | (with_reducible assumption) | assumption)
                                obtain ⟨ad300, e300, hx300_0, hx300_1, hx300_2⟩ := at_T51 (Kd.R_reads' HO_11.out).2.2 x18_2 p300 q300
                                obtain rfl : ad294 = ad300 := (by injection e300)
                                replace p300 := eq_true p300
                                replace q300 := eq_true q300
                                have p301 : 0 ≤ (x18_2 : Int) := of_decide_eq_true (by first | (with_reducible assumption) | assumption)
                                have q301 : x18_2 < (t285.length : Int) := of_decide_eq_true (by first | (with_reducible assumption) | assumption)
                                obtain ⟨ad301, e301, hx301_0, hx301_1, hx301_2⟩ := at_T51 (Kd.R_reads' HO_11.out).2.2 x18_2 p301 q301
                                obtain rfl : ad294 = ad301 := (by injection e301)
                                replace p301 := eq_true p301
                                replace q301 := eq_true q301
                                go_wp2
                                repeat (go_quiet (fail); try go_wp2)
                                go_roundg kj22
                                case measure => have := HJ9.out; have := HK2.out; have := HJ22.out; omega
                                case rel => exact ⟨(wrap64 (x18_2 + 1)), (by first | rfl | (simp; done) | (simp [*]; done)), H', ⟨by have := HJ9.out; have := HK2.out; have := HJ22.out; omega⟩, ⟨by (with_reducible repeat (first | apply Kd.R_alloc | apply Kd.R_drewN | apply Kd.R_drew)); exact HO_3.out⟩, ⟨by (with_reducible repeat (first | apply Kd.R_alloc | apply Kd.R_drewN | apply Kd.R_drew)); exact HO_11.out⟩, ⟨by repeat (first | (with_reducible first | exact HB.out | apply below_alloc | apply pw_below_drewN | apply below_drew1) | exact HB.out)⟩⟩
                          · rw [if_neg c29] at H
                            exact absurd H (by simp)
                        · rw [if_neg c28] at H
                          exact absurd H (by simp)
                      · rw [if_neg c27] at H
                        exact absurd H (by simp)
                    · rw [if_neg c26] at H
                      exact absurd H (by simp)
                  · replace c25 := Bool.eq_false_iff.mpr c25
                    subst c25
                    have H1 : (if t282 = 0 then (laws_FnNearDepots.j3 kj22 l0 t275 t276 t277 t278 t281 (t278 == 100000)) else (laws_FnNearDepots.j3 kj22 l0 t275 t276 t277 t278 t281 true)) = some r := by rw [if_neg (show ¬ (false = true) by decide)] at H; exact H
                    clear H
                    have H := H1
                    clear H1
                    have HC33 := Aside0.mk H
                    clear H
                    go_upto_region 18 with (fail)
                    repeat (go_quiet (fail); go_upto_region 18 with (fail))
                    go_cut [176] (fun v176 wc => ∃ (kq : Nat) (x176_32 : Bool), v176 = .bool x176_32 ∧ Aside0 (laws_FnNearDepots.j3 kq l0 t275 t276 t277 t278 t281 x176_32 = some r) ∧ Aside0 (kq ≤ kj22) ∧ Aside0 (Kd.R k51 51 wc w.heap.size (fun _ => True) (.slice Ao12 t275.length co12) t275) ∧ Aside0 (Below w.heap.size w wc))
                    case first =>
                      have H := HC33.out
                      clear HC33
                      by_cases c34 : t282 = 0
                      · rw [if_pos c34] at H
                        have c34b0 : (t282 == 0) = true := beq_iff_eq.mpr c34
                        have c34b1 : (t282 != 0) = false := bne_eq_false_iff_eq.mpr c34
                        clear c34
                        (first | rw [c34b0] | (simp only [i64_w, i32_w]; rw [c34b0]) | skip)
                        have H' := Aside0.mk H
                        clear H
                        go_wp2
                        repeat (go_quiet (fail); try go_wp2)
                        go_meet
                        case rel => exact ⟨_, ((t278 == 100000)), (by first | rfl | (simp; done) | (simp [*]; done)), H', ⟨by have := HJ9.out; have := HK2.out; have := HJ22.out; first | omega | exact Nat.le_refl _⟩, ⟨by (with_reducible repeat (first | apply Kd.R_alloc | apply Kd.R_drewN | apply Kd.R_drew)); exact Kd.R_mono HO_3.out (fun _ hk => trivial)⟩, ⟨by repeat (first | (with_reducible first | exact HB.out | apply below_alloc | apply pw_below_drewN | apply below_drew1) | exact HB.out)⟩⟩
                      · rw [if_neg c34] at H
                        have c34b0 : (t282 == 0) = false := beq_eq_false_iff_ne.mpr c34
                        have c34b1 : (t282 != 0) = true := bne_iff_ne.mpr c34
                        (first | rw [c34b0] | (simp only [i64_w, i32_w]; rw [c34b0]) | skip)
                        have H' := Aside0.mk H
                        clear H
                        go_wp2
                        repeat (go_quiet (fail); try go_wp2)
                        go_meet
                        case rel => exact ⟨_, (true), (by first | rfl | (simp; done) | (simp [*]; done)), H', ⟨by have := HJ9.out; have := HK2.out; have := HJ22.out; first | omega | exact Nat.le_refl _⟩, ⟨by (with_reducible repeat (first | apply Kd.R_alloc | apply Kd.R_drewN | apply Kd.R_drew)); exact Kd.R_mono HO_3.out (fun _ hk => trivial)⟩, ⟨by repeat (first | (with_reducible first | exact HB.out | apply below_alloc | apply pw_below_drewN | apply below_drew1) | exact HB.out)⟩⟩
                    case rest =>
                      clear HC33
                      try clear c1
                      try clear c2
                      try clear p2
                      try clear q2
                      try clear hx2
                      try clear c3
                      try clear p3
                      try clear q3
                      try clear hx3
                      try clear p6
                      try clear c10
                      try clear c19
                      try clear c19b0
                      try clear c19b1
                      try clear c20
                      try clear c20b0
                      try clear c20b1
                      try clear c21
                      try clear c21b0
                      try clear c21b1
                      try clear c22
                      try clear c24
                      try clear c24b0
                      try clear c24b1
                      try clear c25
                      try clear c26
                      try clear c26b0
                      try clear c27
                      try clear c27b0
                      try clear c28
                      try clear c28b0
                      try clear c29
                      try clear c29b0
                      try clear p29
                      try clear q29
                      try clear hx29
                      try clear c30
                      try clear c30b0
                      try clear p30
                      try clear q30
                      try clear hx30
                      try clear c31
                      try clear c31b0
                      try clear c31b1
                      try clear c32
                      try clear c32b0
                      try clear c34
                      try clear c34b0
                      try clear c34b1
                      try clear hx294_0
                      try clear hx294_1
                      try clear hx294_2
                      try clear hx295_0
                      try clear hx295_1
                      try clear hx295_2
                      try clear hx296_0
                      try clear hx296_1
                      try clear hx296_2
                      try clear hx297_0
                      try clear hx297_1
                      try clear hx297_2
                      try clear hx298_0
                      try clear hx298_1
                      try clear hx298_2
                      try clear hx299_0
                      try clear hx299_1
                      try clear hx299_2
                      try clear hx300_0
                      try clear hx300_1
                      try clear hx300_2
                      try clear hx301_0
                      try clear hx301_1
                      try clear hx301_2
                      try clear p2
                      try clear p294
                      try clear p295
                      try clear p296
                      try clear p297
                      try clear p298
                      try clear p299
                      try clear p300
                      try clear p301
                      try clear q294
                      try clear q295
                      try clear q296
                      try clear q297
                      try clear q298
                      try clear q299
                      try clear q300
                      try clear q301
                      obtain ⟨kq, x176_32, rfl, HA, HJ32, HO_3, HB⟩ := hcut
                      cases kq with
                      | zero => exact absurd HA.out (by simp [laws_FnNearDepots.j3])
                      | succ kj32 =>
                        have H := HA.out
                        clear HA
                        simp only [laws_FnNearDepots.j3] at H
                        by_cases c35 : x176_32 = true
                        · subst c35
                          have H1 : (some true) = some r := by rw [if_pos rfl] at H; exact H
                          clear H
                          have H := H1
                          clear H1
                          obtain rfl := Option.some.inj H
                          go_wp2
                          repeat (go_quiet (fail); try go_wp2)
                          go_ret
                          exact ⟨by first | rfl | (simp [errW_none, errW_some] <;> rfl) | (simp [*, errW_none, errW_some] <;> rfl), by repeat (first | (with_reducible first | exact HB.out | apply below_alloc | apply pw_below_drewN | apply below_drew1) | exact HB.out)⟩
                        · replace c35 := Bool.eq_false_iff.mpr c35
                          subst c35
                          have H1 : ((laws_roll.f kj32 l0 2701).bind fun bt302 => ((laws_dice_below.f bt302.1 bt302.2.1 bt302.2.2 (wrap64 (100000 - t278))).bind fun bt306 => ((impl_GramsNear.f kj32 t275 t276 t277 (wrap64 ((wrap64 (t278 + 1)) + bt306.1))).bind fun bt309 => (if bt309.2 = 0 then (some (decide (bt309.1 ≥ t281))) else (some false))))) = some r := by rw [if_neg (show ¬ (false = true) by decide)] at H; exact H
                          clear H
                          have H := H1
                          clear H1
                          replace H := Option.bind_eq_some_iff.mp H
                          obtain ⟨⟨t302, t303, t304⟩, A360, H⟩ := H
                          replace H : ((laws_dice_below.f t302 t303 t304 (wrap64 (100000 - t278))).bind fun bt306 => ((impl_GramsNear.f kj32 t275 t276 t277 (wrap64 ((wrap64 (t278 + 1)) + bt306.1))).bind fun bt309 => (if bt309.2 = 0 then (some (decide (bt309.1 ≥ t281))) else (some false)))) = some r := H
                          have A36 := Aside0.mk A360
                          clear A360
                          replace H := Option.bind_eq_some_iff.mp H
                          obtain ⟨⟨t306, t307, t308⟩, A370, H⟩ := H
                          replace H : ((impl_GramsNear.f kj32 t275 t276 t277 (wrap64 ((wrap64 (t278 + 1)) + t306))).bind fun bt309 => (if bt309.2 = 0 then (some (decide (bt309.1 ≥ t281))) else (some false))) = some r := H
                          have A37 := Aside0.mk A370
                          clear A370
                          replace H := Option.bind_eq_some_iff.mp H
                          obtain ⟨⟨t309, t310⟩, A380, H⟩ := H
                          replace H : (if t310 = 0 then (some (decide (t309 ≥ t281))) else (some false)) = some r := H
                          have A38 := Aside0.mk A380
                          clear A380
                          by_cases c39 : t310 = 0
                          · rw [if_pos c39] at H
                            have c39b0 : (t310 == 0) = true := beq_iff_eq.mpr c39
                            have c39b1 : (t310 != 0) = false := bne_eq_false_iff_eq.mpr c39
                            clear c39
                            obtain rfl := Option.some.inj H
                            go_wp2_with (first | (go_at_call 27; (with_reducible refine (laws_roll.calls kj32 _ _ l0 2701 t302 t303 t304 w _ ?side1 ?side2 ?side3 A36.out).mono ?_); (case side1 => repeat (first | (with_reducible first | exact HB.out | apply below_alloc | apply pw_below_drewN | apply below_drew1) | exact HB.out)); (case side2 => exact HR0.out); (case side3 => exact HC0.out); rintro e w40 ⟨g305, rfl, hi, hb, hb2⟩; have n0_ := Aside0.mk (Kd.R_below (by (with_reducible repeat (first | apply Kd.R_alloc | apply Kd.R_drewN | apply Kd.R_drew)); exact HO_3.out) hb2); have n1_ := Aside0.mk (hb); have n2_ := Aside0.mk (hi); clear HO_3; clear HB; have HO_3 := n0_; have HB := n1_; have HI305 := n2_; clear n0_ n1_ n2_; (try clear hb); (try clear hb2); (try clear hk); (try clear hi)) | (go_at_call 28; (with_reducible refine (laws_dice_below.calls g305 t302 t303 t304 (wrap64 (100000 - t278)) t306 t307 t308 w _ ?side1 ?side2 A37.out).mono ?_); (case side1 => repeat (first | (with_reducible first | exact HI305.out | apply IsS73.alloc | apply IsS73.drewN | apply IsS73.drew | apply IsS73.set_1 | apply IsS73.set_2) | exact HI305.out)); (case side2 => repeat (first | (with_reducible first | exact HB.out | apply below_alloc | apply pw_below_drewN | apply below_drew1 | refine below_set ?_ (IsS73.ge HI305.out)) | exact HB.out)); rintro e w41 ⟨rfl, hi, hb, hk⟩; have n0_ := Aside0.mk (Kd.R_mono (Kd.R_keep (IsS73.apart (show IsS73 w _ g305 t302 t303 t304 from by repeat (first | (with_reducible first | exact HI305.out | apply IsS73.alloc | apply IsS73.drewN | apply IsS73.drew | apply IsS73.set_1 | apply IsS73.set_2) | exact HI305.out)) (by (with_reducible repeat (first | apply Kd.R_alloc | apply Kd.R_drewN | apply Kd.R_drew)); exact HO_3.out) (by decide)) hk (fun _ h => h.2)) (fun _ h => h.1)); have n1_ := Aside0.mk (hb); have n2_ := Aside0.mk (hi); clear HO_3; clear HB; clear HI305; have HO_3 := n0_; have HB := n1_; have HI305 := n2_; clear n0_ n1_ n2_; (try clear hb); (try clear hb2); (try clear hk); (try clear hi)) | (go_at_call 30; (with_reducible refine (impl_GramsNear.calls kj32 _ _ t275 t276 t277 (wrap64 ((wrap64 (t278 + 1)) + t306)) t309 t310 _ ?side1 ?side2 A38.out).mono ?_); (case side1 => repeat (first | exact (Kd.R_reads' HO_3.out).2.2 | (with_reducible refine Kd.C_alloc ?_ _) | (with_reducible refine Kd.C_drewN ?_ _) | (with_reducible refine Kd.C_drew ?_))); (case side2 => exact (Kd.R_reads' HO_3.out).2.1); rintro e w42 ⟨rfl, hb⟩; have n0_ := Aside0.mk (Kd.R_below (by (with_reducible repeat (first | apply Kd.R_alloc | apply Kd.R_drewN | apply Kd.R_drew)); exact HO_3.out) hb); have n1_ := Aside0.mk (IsS73.below (by repeat (first | (with_reducible first | exact HI305.out | apply IsS73.alloc | apply IsS73.drewN | apply IsS73.drew | apply IsS73.set_1 | apply IsS73.set_2) | exact HI305.out)) hb); have n2_ := Aside0.mk (below_step (by repeat (first | (with_reducible first | exact HB.out | apply below_alloc | apply pw_below_drewN | apply below_drew1 | refine below_set ?_ (IsS73.ge HI305.out)) | exact HB.out)) hb); clear HO_3; clear HI305; clear HB; have HO_3 := n0_; have HI305 := n1_; have HB := n2_; clear n0_ n1_ n2_; (try clear hb); (try clear hb2); (try clear hk); (try clear hi)))
                            repeat (go_quiet (first | (go_at_call 27; (with_reducible refine (laws_roll.calls kj32 _ _ l0 2701 t302 t303 t304 w _ ?side1 ?side2 ?side3 A36.out).mono ?_); (case side1 => repeat (first | (with_reducible first | exact HB.out | apply below_alloc | apply pw_below_drewN | apply below_drew1) | exact HB.out)); (case side2 => exact HR0.out); (case side3 => exact HC0.out); rintro e w40 ⟨g305, rfl, hi, hb, hb2⟩; have n0_ := Aside0.mk (Kd.R_below (by (with_reducible repeat (first | apply Kd.R_alloc | apply Kd.R_drewN | apply Kd.R_drew)); exact HO_3.out) hb2); have n1_ := Aside0.mk (hb); have n2_ := Aside0.mk (hi); clear HO_3; clear HB; have HO_3 := n0_; have HB := n1_; have HI305 := n2_; clear n0_ n1_ n2_; (try clear hb); (try clear hb2); (try clear hk); (try clear hi)) | (go_at_call 28; (with_reducible refine (laws_dice_below.calls g305 t302 t303 t304 (wrap64 (100000 - t278)) t306 t307 t308 w _ ?side1 ?side2 A37.out).mono ?_); (case side1 => repeat (first | (with_reducible first | exact HI305.out | apply IsS73.alloc | apply IsS73.drewN | apply IsS73.drew | apply IsS73.set_1 | apply IsS73.set_2) | exact HI305.out)); (case side2 => repeat (first | (with_reducible first | exact HB.out | apply below_alloc | apply pw_below_drewN | apply below_drew1 | refine below_set ?_ (IsS73.ge HI305.out)) | exact HB.out)); rintro e w41 ⟨rfl, hi, hb, hk⟩; have n0_ := Aside0.mk (Kd.R_mono (Kd.R_keep (IsS73.apart (show IsS73 w _ g305 t302 t303 t304 from by repeat (first | (with_reducible first | exact HI305.out | apply IsS73.alloc | apply IsS73.drewN | apply IsS73.drew | apply IsS73.set_1 | apply IsS73.set_2) | exact HI305.out)) (by (with_reducible repeat (first | apply Kd.R_alloc | apply Kd.R_drewN | apply Kd.R_drew)); exact HO_3.out) (by decide)) hk (fun _ h => h.2)) (fun _ h => h.1)); have n1_ := Aside0.mk (hb); have n2_ := Aside0.mk (hi); clear HO_3; clear HB; clear HI305; have HO_3 := n0_; have HB := n1_; have HI305 := n2_; clear n0_ n1_ n2_; (try clear hb); (try clear hb2); (try clear hk); (try clear hi)) | (go_at_call 30; (with_reducible refine (impl_GramsNear.calls kj32 _ _ t275 t276 t277 (wrap64 ((wrap64 (t278 + 1)) + t306)) t309 t310 _ ?side1 ?side2 A38.out).mono ?_); (case side1 => repeat (first | exact (Kd.R_reads' HO_3.out).2.2 | (with_reducible refine Kd.C_alloc ?_ _) | (with_reducible refine Kd.C_drewN ?_ _) | (with_reducible refine Kd.C_drew ?_))); (case side2 => exact (Kd.R_reads' HO_3.out).2.1); rintro e w42 ⟨rfl, hb⟩; have n0_ := Aside0.mk (Kd.R_below (by (with_reducible repeat (first | apply Kd.R_alloc | apply Kd.R_drewN | apply Kd.R_drew)); exact HO_3.out) hb); have n1_ := Aside0.mk (IsS73.below (by repeat (first | (with_reducible first | exact HI305.out | apply IsS73.alloc | apply IsS73.drewN | apply IsS73.drew | apply IsS73.set_1 | apply IsS73.set_2) | exact HI305.out)) hb); have n2_ := Aside0.mk (below_step (by repeat (first | (with_reducible first | exact HB.out | apply below_alloc | apply pw_below_drewN | apply below_drew1 | refine below_set ?_ (IsS73.ge HI305.out)) | exact HB.out)) hb); clear HO_3; clear HI305; clear HB; have HO_3 := n0_; have HI305 := n1_; have HB := n2_; clear n0_ n1_ n2_; (try clear hb); (try clear hb2); (try clear hk); (try clear hi))); try go_wp2_with (first | (go_at_call 27; (with_reducible refine (laws_roll.calls kj32 _ _ l0 2701 t302 t303 t304 w _ ?side1 ?side2 ?side3 A36.out).mono ?_); (case side1 => repeat (first | (with_reducible first | exact HB.out | apply below_alloc | apply pw_below_drewN | apply below_drew1) | exact HB.out)); (case side2 => exact HR0.out); (case side3 => exact HC0.out); rintro e w40 ⟨g305, rfl, hi, hb, hb2⟩; have n0_ := Aside0.mk (Kd.R_below (by (with_reducible repeat (first | apply Kd.R_alloc | apply Kd.R_drewN | apply Kd.R_drew)); exact HO_3.out) hb2); have n1_ := Aside0.mk (hb); have n2_ := Aside0.mk (hi); clear HO_3; clear HB; have HO_3 := n0_; have HB := n1_; have HI305 := n2_; clear n0_ n1_ n2_; (try clear hb); (try clear hb2); (try clear hk); (try clear hi)) | (go_at_call 28; (with_reducible refine (laws_dice_below.calls g305 t302 t303 t304 (wrap64 (100000 - t278)) t306 t307 t308 w _ ?side1 ?side2 A37.out).mono ?_); (case side1 => repeat (first | (with_reducible first | exact HI305.out | apply IsS73.alloc | apply IsS73.drewN | apply IsS73.drew | apply IsS73.set_1 | apply IsS73.set_2) | exact HI305.out)); (case side2 => repeat (first | (with_reducible first | exact HB.out | apply below_alloc | apply pw_below_drewN | apply below_drew1 | refine below_set ?_ (IsS73.ge HI305.out)) | exact HB.out)); rintro e w41 ⟨rfl, hi, hb, hk⟩; have n0_ := Aside0.mk (Kd.R_mono (Kd.R_keep (IsS73.apart (show IsS73 w _ g305 t302 t303 t304 from by repeat (first | (with_reducible first | exact HI305.out | apply IsS73.alloc | apply IsS73.drewN | apply IsS73.drew | apply IsS73.set_1 | apply IsS73.set_2) | exact HI305.out)) (by (with_reducible repeat (first | apply Kd.R_alloc | apply Kd.R_drewN | apply Kd.R_drew)); exact HO_3.out) (by decide)) hk (fun _ h => h.2)) (fun _ h => h.1)); have n1_ := Aside0.mk (hb); have n2_ := Aside0.mk (hi); clear HO_3; clear HB; clear HI305; have HO_3 := n0_; have HB := n1_; have HI305 := n2_; clear n0_ n1_ n2_; (try clear hb); (try clear hb2); (try clear hk); (try clear hi)) | (go_at_call 30; (with_reducible refine (impl_GramsNear.calls kj32 _ _ t275 t276 t277 (wrap64 ((wrap64 (t278 + 1)) + t306)) t309 t310 _ ?side1 ?side2 A38.out).mono ?_); (case side1 => repeat (first | exact (Kd.R_reads' HO_3.out).2.2 | (with_reducible refine Kd.C_alloc ?_ _) | (with_reducible refine Kd.C_drewN ?_ _) | (with_reducible refine Kd.C_drew ?_))); (case side2 => exact (Kd.R_reads' HO_3.out).2.1); rintro e w42 ⟨rfl, hb⟩; have n0_ := Aside0.mk (Kd.R_below (by (with_reducible repeat (first | apply Kd.R_alloc | apply Kd.R_drewN | apply Kd.R_drew)); exact HO_3.out) hb); have n1_ := Aside0.mk (IsS73.below (by repeat (first | (with_reducible first | exact HI305.out | apply IsS73.alloc | apply IsS73.drewN | apply IsS73.drew | apply IsS73.set_1 | apply IsS73.set_2) | exact HI305.out)) hb); have n2_ := Aside0.mk (below_step (by repeat (first | (with_reducible first | exact HB.out | apply below_alloc | apply pw_below_drewN | apply below_drew1 | refine below_set ?_ (IsS73.ge HI305.out)) | exact HB.out)) hb); clear HO_3; clear HI305; clear HB; have HO_3 := n0_; have HI305 := n1_; have HB := n2_; clear n0_ n1_ n2_; (try clear hb); (try clear hb2); (try clear hk); (try clear hi))))
                            go_ret
                            exact ⟨by first | rfl | (simp [errW_none, errW_some] <;> rfl) | (simp [*, errW_none, errW_some] <;> rfl), by repeat (first | (with_reducible first | exact HB.out | apply below_alloc | apply pw_below_drewN | apply below_drew1 | refine below_set ?_ (IsS73.ge HI305.out)) | exact HB.out)⟩
                          · rw [if_neg c39] at H
                            have c39b0 : (t310 == 0) = false := beq_eq_false_iff_ne.mpr c39
                            have c39b1 : (t310 != 0) = true := bne_iff_ne.mpr c39
                            obtain rfl := Option.some.inj H
                            go_wp2_with (first | (go_at_call 27; (with_reducible refine (laws_roll.calls kj32 _ _ l0 2701 t302 t303 t304 w _ ?side1 ?side2 ?side3 A36.out).mono ?_); (case side1 => repeat (first | (with_reducible first | exact HB.out | apply below_alloc | apply pw_below_drewN | apply below_drew1) | exact HB.out)); (case side2 => exact HR0.out); (case side3 => exact HC0.out); rintro e w43 ⟨g305, rfl, hi, hb, hb2⟩; have n0_ := Aside0.mk (Kd.R_below (by (with_reducible repeat (first | apply Kd.R_alloc | apply Kd.R_drewN | apply Kd.R_drew)); exact HO_3.out) hb2); have n1_ := Aside0.mk (hb); have n2_ := Aside0.mk (hi); clear HO_3; clear HB; have HO_3 := n0_; have HB := n1_; have HI305 := n2_; clear n0_ n1_ n2_; (try clear hb); (try clear hb2); (try clear hk); (try clear hi)) | (go_at_call 28; (with_reducible refine (laws_dice_below.calls g305 t302 t303 t304 (wrap64 (100000 - t278)) t306 t307 t308 w _ ?side1 ?side2 A37.out).mono ?_); (case side1 => repeat (first | (with_reducible first | exact HI305.out | apply IsS73.alloc | apply IsS73.drewN | apply IsS73.drew | apply IsS73.set_1 | apply IsS73.set_2) | exact HI305.out)); (case side2 => repeat (first | (with_reducible first | exact HB.out | apply below_alloc | apply pw_below_drewN | apply below_drew1 | refine below_set ?_ (IsS73.ge HI305.out)) | exact HB.out)); rintro e w44 ⟨rfl, hi, hb, hk⟩; have n0_ := Aside0.mk (Kd.R_mono (Kd.R_keep (IsS73.apart (show IsS73 w _ g305 t302 t303 t304 from by repeat (first | (with_reducible first | exact HI305.out | apply IsS73.alloc | apply IsS73.drewN | apply IsS73.drew | apply IsS73.set_1 | apply IsS73.set_2) | exact HI305.out)) (by (with_reducible repeat (first | apply Kd.R_alloc | apply Kd.R_drewN | apply Kd.R_drew)); exact HO_3.out) (by decide)) hk (fun _ h => h.2)) (fun _ h => h.1)); have n1_ := Aside0.mk (hb); have n2_ := Aside0.mk (hi); clear HO_3; clear HB; clear HI305; have HO_3 := n0_; have HB := n1_; have HI305 := n2_; clear n0_ n1_ n2_; (try clear hb); (try clear hb2); (try clear hk); (try clear hi)) | (go_at_call 30; (with_reducible refine (impl_GramsNear.calls kj32 _ _ t275 t276 t277 (wrap64 ((wrap64 (t278 + 1)) + t306)) t309 t310 _ ?side1 ?side2 A38.out).mono ?_); (case side1 => repeat (first | exact (Kd.R_reads' HO_3.out).2.2 | (with_reducible refine Kd.C_alloc ?_ _) | (with_reducible refine Kd.C_drewN ?_ _) | (with_reducible refine Kd.C_drew ?_))); (case side2 => exact (Kd.R_reads' HO_3.out).2.1); rintro e w45 ⟨rfl, hb⟩; have n0_ := Aside0.mk (Kd.R_below (by (with_reducible repeat (first | apply Kd.R_alloc | apply Kd.R_drewN | apply Kd.R_drew)); exact HO_3.out) hb); have n1_ := Aside0.mk (IsS73.below (by repeat (first | (with_reducible first | exact HI305.out | apply IsS73.alloc | apply IsS73.drewN | apply IsS73.drew | apply IsS73.set_1 | apply IsS73.set_2) | exact HI305.out)) hb); have n2_ := Aside0.mk (below_step (by repeat (first | (with_reducible first | exact HB.out | apply below_alloc | apply pw_below_drewN | apply below_drew1 | refine below_set ?_ (IsS73.ge HI305.out)) | exact HB.out)) hb); clear HO_3; clear HI305; clear HB; have HO_3 := n0_; have HI305 := n1_; have HB := n2_; clear n0_ n1_ n2_; (try clear hb); (try clear hb2); (try clear hk); (try clear hi)))
                            repeat (go_quiet (first | (go_at_call 27; (with_reducible refine (laws_roll.calls kj32 _ _ l0 2701 t302 t303 t304 w _ ?side1 ?side2 ?side3 A36.out).mono ?_); (case side1 => repeat (first | (with_reducible first | exact HB.out | apply below_alloc | apply pw_below_drewN | apply below_drew1) | exact HB.out)); (case side2 => exact HR0.out); (case side3 => exact HC0.out); rintro e w43 ⟨g305, rfl, hi, hb, hb2⟩; have n0_ := Aside0.mk (Kd.R_below (by (with_reducible repeat (first | apply Kd.R_alloc | apply Kd.R_drewN | apply Kd.R_drew)); exact HO_3.out) hb2); have n1_ := Aside0.mk (hb); have n2_ := Aside0.mk (hi); clear HO_3; clear HB; have HO_3 := n0_; have HB := n1_; have HI305 := n2_; clear n0_ n1_ n2_; (try clear hb); (try clear hb2); (try clear hk); (try clear hi)) | (go_at_call 28; (with_reducible refine (laws_dice_below.calls g305 t302 t303 t304 (wrap64 (100000 - t278)) t306 t307 t308 w _ ?side1 ?side2 A37.out).mono ?_); (case side1 => repeat (first | (with_reducible first | exact HI305.out | apply IsS73.alloc | apply IsS73.drewN | apply IsS73.drew | apply IsS73.set_1 | apply IsS73.set_2) | exact HI305.out)); (case side2 => repeat (first | (with_reducible first | exact HB.out | apply below_alloc | apply pw_below_drewN | apply below_drew1 | refine below_set ?_ (IsS73.ge HI305.out)) | exact HB.out)); rintro e w44 ⟨rfl, hi, hb, hk⟩; have n0_ := Aside0.mk (Kd.R_mono (Kd.R_keep (IsS73.apart (show IsS73 w _ g305 t302 t303 t304 from by repeat (first | (with_reducible first | exact HI305.out | apply IsS73.alloc | apply IsS73.drewN | apply IsS73.drew | apply IsS73.set_1 | apply IsS73.set_2) | exact HI305.out)) (by (with_reducible repeat (first | apply Kd.R_alloc | apply Kd.R_drewN | apply Kd.R_drew)); exact HO_3.out) (by decide)) hk (fun _ h => h.2)) (fun _ h => h.1)); have n1_ := Aside0.mk (hb); have n2_ := Aside0.mk (hi); clear HO_3; clear HB; clear HI305; have HO_3 := n0_; have HB := n1_; have HI305 := n2_; clear n0_ n1_ n2_; (try clear hb); (try clear hb2); (try clear hk); (try clear hi)) | (go_at_call 30; (with_reducible refine (impl_GramsNear.calls kj32 _ _ t275 t276 t277 (wrap64 ((wrap64 (t278 + 1)) + t306)) t309 t310 _ ?side1 ?side2 A38.out).mono ?_); (case side1 => repeat (first | exact (Kd.R_reads' HO_3.out).2.2 | (with_reducible refine Kd.C_alloc ?_ _) | (with_reducible refine Kd.C_drewN ?_ _) | (with_reducible refine Kd.C_drew ?_))); (case side2 => exact (Kd.R_reads' HO_3.out).2.1); rintro e w45 ⟨rfl, hb⟩; have n0_ := Aside0.mk (Kd.R_below (by (with_reducible repeat (first | apply Kd.R_alloc | apply Kd.R_drewN | apply Kd.R_drew)); exact HO_3.out) hb); have n1_ := Aside0.mk (IsS73.below (by repeat (first | (with_reducible first | exact HI305.out | apply IsS73.alloc | apply IsS73.drewN | apply IsS73.drew | apply IsS73.set_1 | apply IsS73.set_2) | exact HI305.out)) hb); have n2_ := Aside0.mk (below_step (by repeat (first | (with_reducible first | exact HB.out | apply below_alloc | apply pw_below_drewN | apply below_drew1 | refine below_set ?_ (IsS73.ge HI305.out)) | exact HB.out)) hb); clear HO_3; clear HI305; clear HB; have HO_3 := n0_; have HI305 := n1_; have HB := n2_; clear n0_ n1_ n2_; (try clear hb); (try clear hb2); (try clear hk); (try clear hi))); try go_wp2_with (first | (go_at_call 27; (with_reducible refine (laws_roll.calls kj32 _ _ l0 2701 t302 t303 t304 w _ ?side1 ?side2 ?side3 A36.out).mono ?_); (case side1 => repeat (first | (with_reducible first | exact HB.out | apply below_alloc | apply pw_below_drewN | apply below_drew1) | exact HB.out)); (case side2 => exact HR0.out); (case side3 => exact HC0.out); rintro e w43 ⟨g305, rfl, hi, hb, hb2⟩; have n0_ := Aside0.mk (Kd.R_below (by (with_reducible repeat (first | apply Kd.R_alloc | apply Kd.R_drewN | apply Kd.R_drew)); exact HO_3.out) hb2); have n1_ := Aside0.mk (hb); have n2_ := Aside0.mk (hi); clear HO_3; clear HB; have HO_3 := n0_; have HB := n1_; have HI305 := n2_; clear n0_ n1_ n2_; (try clear hb); (try clear hb2); (try clear hk); (try clear hi)) | (go_at_call 28; (with_reducible refine (laws_dice_below.calls g305 t302 t303 t304 (wrap64 (100000 - t278)) t306 t307 t308 w _ ?side1 ?side2 A37.out).mono ?_); (case side1 => repeat (first | (with_reducible first | exact HI305.out | apply IsS73.alloc | apply IsS73.drewN | apply IsS73.drew | apply IsS73.set_1 | apply IsS73.set_2) | exact HI305.out)); (case side2 => repeat (first | (with_reducible first | exact HB.out | apply below_alloc | apply pw_below_drewN | apply below_drew1 | refine below_set ?_ (IsS73.ge HI305.out)) | exact HB.out)); rintro e w44 ⟨rfl, hi, hb, hk⟩; have n0_ := Aside0.mk (Kd.R_mono (Kd.R_keep (IsS73.apart (show IsS73 w _ g305 t302 t303 t304 from by repeat (first | (with_reducible first | exact HI305.out | apply IsS73.alloc | apply IsS73.drewN | apply IsS73.drew | apply IsS73.set_1 | apply IsS73.set_2) | exact HI305.out)) (by (with_reducible repeat (first | apply Kd.R_alloc | apply Kd.R_drewN | apply Kd.R_drew)); exact HO_3.out) (by decide)) hk (fun _ h => h.2)) (fun _ h => h.1)); have n1_ := Aside0.mk (hb); have n2_ := Aside0.mk (hi); clear HO_3; clear HB; clear HI305; have HO_3 := n0_; have HB := n1_; have HI305 := n2_; clear n0_ n1_ n2_; (try clear hb); (try clear hb2); (try clear hk); (try clear hi)) | (go_at_call 30; (with_reducible refine (impl_GramsNear.calls kj32 _ _ t275 t276 t277 (wrap64 ((wrap64 (t278 + 1)) + t306)) t309 t310 _ ?side1 ?side2 A38.out).mono ?_); (case side1 => repeat (first | exact (Kd.R_reads' HO_3.out).2.2 | (with_reducible refine Kd.C_alloc ?_ _) | (with_reducible refine Kd.C_drewN ?_ _) | (with_reducible refine Kd.C_drew ?_))); (case side2 => exact (Kd.R_reads' HO_3.out).2.1); rintro e w45 ⟨rfl, hb⟩; have n0_ := Aside0.mk (Kd.R_below (by (with_reducible repeat (first | apply Kd.R_alloc | apply Kd.R_drewN | apply Kd.R_drew)); exact HO_3.out) hb); have n1_ := Aside0.mk (IsS73.below (by repeat (first | (with_reducible first | exact HI305.out | apply IsS73.alloc | apply IsS73.drewN | apply IsS73.drew | apply IsS73.set_1 | apply IsS73.set_2) | exact HI305.out)) hb); have n2_ := Aside0.mk (below_step (by repeat (first | (with_reducible first | exact HB.out | apply below_alloc | apply pw_below_drewN | apply below_drew1 | refine below_set ?_ (IsS73.ge HI305.out)) | exact HB.out)) hb); clear HO_3; clear HI305; clear HB; have HO_3 := n0_; have HI305 := n1_; have HB := n2_; clear n0_ n1_ n2_; (try clear hb); (try clear hb2); (try clear hk); (try clear hi))))
                            go_ret
                            exact ⟨by first | rfl | (simp [errW_none, errW_some] <;> rfl) | (simp [*, errW_none, errW_some] <;> rfl), by repeat (first | (with_reducible first | exact HB.out | apply below_alloc | apply pw_below_drewN | apply below_drew1 | refine below_set ?_ (IsS73.ge HI305.out)) | exact HB.out)⟩

/-- THE ONE PURE STATEMENT of laws_FnNearDepots: yours. -/
def laws_FnNearDepots.Pure : Prop := ∀ (l0 : List Int), l0.length ≤ maxLen → l0.length * 1 ≤ 140737488351232 → (∀ x ∈ l0, (Lit.int .u8 x).wf = true) → ∃ k, laws_FnNearDepots.f k l0 = some true
theorem laws_FnNearDepots.walk (P : laws_FnNearDepots.Pure) (a0 : Option Addr) (len0 cap0 : Nat) (z0 : List Int) (w : World) (w0 : (a0 = none ∧ len0 = 0 ∧ cap0 = 0 ∧ z0 = []) ∨ ∃ x, a0 = some x ∧ len0 ≤ cap0 ∧ cap0 ≤ maxLen ∧ z0.length = cap0 ∧ (∀ i, i < z0.length → w.cell? (x.add i) = some (.int .u8 (z0.getD i 0))) ∧ ∀ n ∈ z0, (Lit.int .u8 n).wf = true) (y0 : len0 * 1 ≤ 140737488351232) :
    Calls Try.prog 10 #[.slice a0 len0 cap0] w fun e w' => e = .returned (.bool true) ∧ Below w.heap.size w w' := by
  obtain ⟨l0, rfl, hr0, hm0, hw0, hc0⟩ := ReadsInt.ofRowC w0
  obtain ⟨k, h⟩ := P l0 hm0 y0 hw0
  refine (laws_FnNearDepots.calls k _ _ l0 true w (Kd.C_of_reads (d := (0 : Int)) (h1 := fun _ => rfl) hr0) hc0 h).mono ?_
  rintro e w' ⟨rfl, hd⟩
  exact ⟨rfl, hd⟩

end Go.Proofs.Ytmhnkhealidjjaa.PFnNearDepots
