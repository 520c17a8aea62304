/- Functions and contracts that FnSeparations reaches (3 of 3). -/
import Derived.Test.YtmhnkhealidjjaaQFnSeparationsx1
namespace Go.Proofs.Ytmhnkhealidjjaa.PFnSeparations
open Go.RowKit Go.Proofs.YtmhnkhealidjjaaW.PrintWords Go.Proofs.YtmhnkhealidjjaaW.PrintLast Go.Proofs.YtmhnkhealidjjaaW.PrintMore
attribute [local go_sem] max2_int min2_int max_two min_two max_three min_three max_four min_four   -- for this text's walks alone
set_option linter.unusedVariables false
set_option linter.unusedSimpArgs false

/-! ### laws_FnSeparations: function 6 -/
mutual
def laws_FnSeparations.j0 : Nat → List Int → Int → Int → Int → Int → Int → Int → Int → Int → Bool → Option (Bool)
  | 0, _, _, _, _, _, _, _, _, _, _ => none
  | k + 1, x0, x3, x4, x5, x6, x9, x10, x11, x12, x75 => if x75 = true then (some false) else (if x12 = 0 then ((impl_SeparationFor.f k x9 x11).bind fun bt200 => (if bt200.2 = 0 then (laws_FnSeparations.j1 k x0 x3 x4 x5 x6 x9 x10 x11 (decide (bt200.1 > x10))) else (laws_FnSeparations.j1 k x0 x3 x4 x5 x6 x9 x10 x11 true))) else (laws_FnSeparations.j2 k x0 x3 x4 x5 x6))
def laws_FnSeparations.j2 : Nat → List Int → Int → Int → Int → Int → Option (Bool)
  | 0, _, _, _, _, _ => none
  | k + 1, x0, x3, x4, x5, x6 => if x6 = 0 then (if (wrap64 ((wrap64 (x5 * x5)) * x5)) < (wrap64 ((wrap64 ((wrap64 (x3 * x3)) * x3)) * x4)) then (laws_FnSeparations.j3 k x0 x3 x4 x5 true) else (if x5 > 0 then (laws_FnSeparations.j3 k x0 x3 x4 x5 (decide ((wrap64 ((wrap64 ((wrap64 (x5 - 1)) * (wrap64 (x5 - 1)))) * (wrap64 (x5 - 1)))) ≥ (wrap64 ((wrap64 ((wrap64 (x3 * x3)) * x3)) * x4))))) else (laws_FnSeparations.j3 k x0 x3 x4 x5 false))) else (some true)
def laws_FnSeparations.j3 : Nat → List Int → Int → Int → Int → Bool → Option (Bool)
  | 0, _, _, _, _, _ => none
  | k + 1, x0, x3, x4, x5, x138 => if x138 = true then (some false) else ((laws_roll.f k x0 2701).bind fun bt204 => ((laws_dice_below.f bt204.1 bt204.2.1 bt204.2.2 (wrap64 (x4 + 1))).bind fun bt208 => ((impl_SeparationFor.f k x3 bt208.1).bind fun bt211 => (if bt211.2 = 0 then (some (decide (bt211.1 ≤ x5))) else (some false)))))
def laws_FnSeparations.j1 : Nat → List Int → Int → Int → Int → Int → Int → Int → Int → Bool → Option (Bool)
  | 0, _, _, _, _, _, _, _, _, _ => none
  | k + 1, x0, x3, x4, x5, x6, x9, x10, x11, x90 => if x90 = true then (some false) else (if x11 < 100000000 then ((impl_SeparationFor.f k x9 (wrap64 (x11 + 1))).bind fun bt202 => (if bt202.2 = 0 then (if bt202.1 ≤ x10 then (some false) else (laws_FnSeparations.j2 k x0 x3 x4 x5 x6)) else (some false))) else (laws_FnSeparations.j2 k x0 x3 x4 x5 x6))
end
def laws_FnSeparations.f (k : Nat) (l0 : List Int) : Option (Bool) := (laws_big.f l0).bind fun t187 => (if t187 = true then (some true) else ((spec_DrawSeparationFor.f k l0).bind fun bt188 => ((impl_SeparationFor.f k bt188.1 bt188.2).bind fun bt190 => ((spec_SeparationFor.f k bt188.1 bt188.2).bind fun bt192 => ((spec_DrawGramsFor.f k l0).bind fun bt194 => ((impl_GramsFor.f k bt194.1 bt194.2).bind fun bt196 => ((spec_GramsFor.f k bt194.1 bt194.2).bind fun bt198 => (if bt190.2 = bt192.2 then (if bt190.1 = bt192.1 then (if bt196.2 = bt198.2 then (laws_FnSeparations.j0 k l0 bt188.1 bt188.2 bt190.1 bt190.2 bt194.1 bt194.2 bt196.1 bt196.2 (bt196.1 != bt198.1)) else (laws_FnSeparations.j0 k l0 bt188.1 bt188.2 bt190.1 bt190.2 bt194.1 bt194.2 bt196.1 bt196.2 true)) else (laws_FnSeparations.j0 k l0 bt188.1 bt188.2 bt190.1 bt190.2 bt194.1 bt194.2 bt196.1 bt196.2 true)) else (laws_FnSeparations.j0 k l0 bt188.1 bt188.2 bt190.1 bt190.2 bt194.1 bt194.2 bt196.1 bt196.2 true)))))))))
theorem laws_FnSeparations.mono_l : ∀ k, (∀ y0 y1 y2 y3 y4 y5 y6 y7 y8 y9, LeO (laws_FnSeparations.j0 k y0 y1 y2 y3 y4 y5 y6 y7 y8 y9) (laws_FnSeparations.j0 (k + 1) y0 y1 y2 y3 y4 y5 y6 y7 y8 y9)) ∧ (∀ y0 y1 y2 y3 y4, LeO (laws_FnSeparations.j2 k y0 y1 y2 y3 y4) (laws_FnSeparations.j2 (k + 1) y0 y1 y2 y3 y4)) ∧ (∀ y0 y1 y2 y3 y4, LeO (laws_FnSeparations.j3 k y0 y1 y2 y3 y4) (laws_FnSeparations.j3 (k + 1) y0 y1 y2 y3 y4)) ∧ (∀ y0 y1 y2 y3 y4 y5 y6 y7 y8, LeO (laws_FnSeparations.j1 k y0 y1 y2 y3 y4 y5 y6 y7 y8) (laws_FnSeparations.j1 (k + 1) y0 y1 y2 y3 y4 y5 y6 y7 y8))
  | 0 => ⟨fun _ _ _ _ _ _ _ _ _ _ r h => by simp [laws_FnSeparations.j0] at h, fun _ _ _ _ _ r h => by simp [laws_FnSeparations.j2] at h, fun _ _ _ _ _ r h => by simp [laws_FnSeparations.j3] at h, fun _ _ _ _ _ _ _ _ _ r h => by simp [laws_FnSeparations.j1] at h⟩
  | k + 1 => by
    obtain ⟨ih0, ih1, ih2, ih3⟩ := laws_FnSeparations.mono_l k
    refine ⟨?_, ?_, ?_, ?_⟩
    · intro y0 y1 y2 y3 y4 y5 y6 y7 y8 y9
      unfold laws_FnSeparations.j0
      repeat' first
      | (with_reducible exact ih0 _ _ _ _ _ _ _ _ _ _)
      | (with_reducible exact ih1 _ _ _ _ _)
      | (with_reducible exact ih2 _ _ _ _ _)
      | (with_reducible exact ih3 _ _ _ _ _ _ _ _ _)
      | (with_reducible exact impl_GramsFor.mono _ _ _)
      | (with_reducible exact impl_SeparationFor.mono _ _ _)
      | (with_reducible exact laws_roll.mono _ _ _)
      | (with_reducible exact spec_DrawGramsFor.mono _ _)
      | (with_reducible exact spec_DrawSeparationFor.mono _ _)
      | (with_reducible exact spec_GramsFor.mono _ _ _)
      | (with_reducible exact spec_SeparationFor.mono _ _ _)
      | (with_reducible exact LeO.refl _)
      | (with_reducible exact LeO.none _)
      | (with_reducible refine LeO.ite ?_ ?_)
      | (with_reducible refine LeO.bind ?_ (fun _ => ?_))
      | exact ih0 _ _ _ _ _ _ _ _ _ _
      | exact ih1 _ _ _ _ _
      | exact ih2 _ _ _ _ _
      | exact ih3 _ _ _ _ _ _ _ _ _
      | exact impl_GramsFor.mono _ _ _
      | exact impl_SeparationFor.mono _ _ _
      | exact laws_roll.mono _ _ _
      | exact spec_DrawGramsFor.mono _ _
      | exact spec_DrawSeparationFor.mono _ _
      | exact spec_GramsFor.mono _ _ _
      | exact spec_SeparationFor.mono _ _ _
      | exact LeO.none _
      | refine LeO.ite ?_ ?_
      | refine LeO.bind ?_ (fun _ => ?_)
    · intro y0 y1 y2 y3 y4
      unfold laws_FnSeparations.j2
      repeat' first
      | (with_reducible exact ih0 _ _ _ _ _ _ _ _ _ _)
      | (with_reducible exact ih1 _ _ _ _ _)
      | (with_reducible exact ih2 _ _ _ _ _)
      | (with_reducible exact ih3 _ _ _ _ _ _ _ _ _)
      | (with_reducible exact impl_GramsFor.mono _ _ _)
      | (with_reducible exact impl_SeparationFor.mono _ _ _)
      | (with_reducible exact laws_roll.mono _ _ _)
      | (with_reducible exact spec_DrawGramsFor.mono _ _)
      | (with_reducible exact spec_DrawSeparationFor.mono _ _)
      | (with_reducible exact spec_GramsFor.mono _ _ _)
      | (with_reducible exact spec_SeparationFor.mono _ _ _)
      | (with_reducible exact LeO.refl _)
      | (with_reducible exact LeO.none _)
      | (with_reducible refine LeO.ite ?_ ?_)
      | (with_reducible refine LeO.bind ?_ (fun _ => ?_))
      | exact ih0 _ _ _ _ _ _ _ _ _ _
      | exact ih1 _ _ _ _ _
      | exact ih2 _ _ _ _ _
      | exact ih3 _ _ _ _ _ _ _ _ _
      | exact impl_GramsFor.mono _ _ _
      | exact impl_SeparationFor.mono _ _ _
      | exact laws_roll.mono _ _ _
      | exact spec_DrawGramsFor.mono _ _
      | exact spec_DrawSeparationFor.mono _ _
      | exact spec_GramsFor.mono _ _ _
      | exact spec_SeparationFor.mono _ _ _
      | exact LeO.none _
      | refine LeO.ite ?_ ?_
      | refine LeO.bind ?_ (fun _ => ?_)
    · intro y0 y1 y2 y3 y4
      unfold laws_FnSeparations.j3
      repeat' first
      | (with_reducible exact ih0 _ _ _ _ _ _ _ _ _ _)
      | (with_reducible exact ih1 _ _ _ _ _)
      | (with_reducible exact ih2 _ _ _ _ _)
      | (with_reducible exact ih3 _ _ _ _ _ _ _ _ _)
      | (with_reducible exact impl_GramsFor.mono _ _ _)
      | (with_reducible exact impl_SeparationFor.mono _ _ _)
      | (with_reducible exact laws_roll.mono _ _ _)
      | (with_reducible exact spec_DrawGramsFor.mono _ _)
      | (with_reducible exact spec_DrawSeparationFor.mono _ _)
      | (with_reducible exact spec_GramsFor.mono _ _ _)
      | (with_reducible exact spec_SeparationFor.mono _ _ _)
      | (with_reducible exact LeO.refl _)
      | (with_reducible exact LeO.none _)
      | (with_reducible refine LeO.ite ?_ ?_)
      | (with_reducible refine LeO.bind ?_ (fun _ => ?_))
      | exact ih0 _ _ _ _ _ _ _ _ _ _
      | exact ih1 _ _ _ _ _
      | exact ih2 _ _ _ _ _
      | exact ih3 _ _ _ _ _ _ _ _ _
      | exact impl_GramsFor.mono _ _ _
      | exact impl_SeparationFor.mono _ _ _
      | exact laws_roll.mono _ _ _
      | exact spec_DrawGramsFor.mono _ _
      | exact spec_DrawSeparationFor.mono _ _
      | exact spec_GramsFor.mono _ _ _
      | exact spec_SeparationFor.mono _ _ _
      | exact LeO.none _
      | refine LeO.ite ?_ ?_
      | refine LeO.bind ?_ (fun _ => ?_)
    · intro y0 y1 y2 y3 y4 y5 y6 y7 y8
      unfold laws_FnSeparations.j1
      repeat' first
      | (with_reducible exact ih0 _ _ _ _ _ _ _ _ _ _)
      | (with_reducible exact ih1 _ _ _ _ _)
      | (with_reducible exact ih2 _ _ _ _ _)
      | (with_reducible exact ih3 _ _ _ _ _ _ _ _ _)
      | (with_reducible exact impl_GramsFor.mono _ _ _)
      | (with_reducible exact impl_SeparationFor.mono _ _ _)
      | (with_reducible exact laws_roll.mono _ _ _)
      | (with_reducible exact spec_DrawGramsFor.mono _ _)
      | (with_reducible exact spec_DrawSeparationFor.mono _ _)
      | (with_reducible exact spec_GramsFor.mono _ _ _)
      | (with_reducible exact spec_SeparationFor.mono _ _ _)
      | (with_reducible exact LeO.refl _)
      | (with_reducible exact LeO.none _)
      | (with_reducible refine LeO.ite ?_ ?_)
      | (with_reducible refine LeO.bind ?_ (fun _ => ?_))
      | exact ih0 _ _ _ _ _ _ _ _ _ _
      | exact ih1 _ _ _ _ _
      | exact ih2 _ _ _ _ _
      | exact ih3 _ _ _ _ _ _ _ _ _
      | exact impl_GramsFor.mono _ _ _
      | exact impl_SeparationFor.mono _ _ _
      | exact laws_roll.mono _ _ _
      | exact spec_DrawGramsFor.mono _ _
      | exact spec_DrawSeparationFor.mono _ _
      | exact spec_GramsFor.mono _ _ _
      | exact spec_SeparationFor.mono _ _ _
      | exact LeO.none _
      | refine LeO.ite ?_ ?_
      | refine LeO.bind ?_ (fun _ => ?_)
theorem laws_FnSeparations.mono : ∀ a0 k, LeO (laws_FnSeparations.f k a0) (laws_FnSeparations.f (k + 1) a0) := by
  intro a0 k
  obtain ⟨ih0, ih1, ih2, ih3⟩ := laws_FnSeparations.mono_l k
  unfold laws_FnSeparations.f
  repeat' first
      | (with_reducible exact ih0 _ _ _ _ _ _ _ _ _ _)
      | (with_reducible exact ih1 _ _ _ _ _)
      | (with_reducible exact ih2 _ _ _ _ _)
      | (with_reducible exact ih3 _ _ _ _ _ _ _ _ _)
      | (with_reducible exact impl_GramsFor.mono _ _ _)
      | (with_reducible exact impl_SeparationFor.mono _ _ _)
      | (with_reducible exact laws_roll.mono _ _ _)
      | (with_reducible exact spec_DrawGramsFor.mono _ _)
      | (with_reducible exact spec_DrawSeparationFor.mono _ _)
      | (with_reducible exact spec_GramsFor.mono _ _ _)
      | (with_reducible exact spec_SeparationFor.mono _ _ _)
      | (with_reducible exact LeO.refl _)
      | (with_reducible exact LeO.none _)
      | (with_reducible refine LeO.ite ?_ ?_)
      | (with_reducible refine LeO.bind ?_ (fun _ => ?_))
      | exact ih0 _ _ _ _ _ _ _ _ _ _
      | exact ih1 _ _ _ _ _
      | exact ih2 _ _ _ _ _
      | exact ih3 _ _ _ _ _ _ _ _ _
      | exact impl_GramsFor.mono _ _ _
      | exact impl_SeparationFor.mono _ _ _
      | exact laws_roll.mono _ _ _
      | exact spec_DrawGramsFor.mono _ _
      | exact spec_DrawSeparationFor.mono _ _
      | exact spec_GramsFor.mono _ _ _
      | exact spec_SeparationFor.mono _ _ _
      | exact LeO.none _
      | refine LeO.ite ?_ ?_
      | refine LeO.bind ?_ (fun _ => ?_)
set_option maxHeartbeats 8000000 in
set_option maxRecDepth 100000 in
theorem laws_FnSeparations.calls (k : Nat) (A0 : Option Addr) (c0 : Nat) (l0 : List Int) (r : Bool) (w : World) (hr0 : Kd.C (Kd.int .u8) w A0 l0.length l0) (hc0 : l0.length ≤ c0) (h : laws_FnSeparations.f k l0 = some r) :
    Calls Try.prog 6 #[.slice A0 l0.length c0] w fun e w' => e = .returned (.bool r) ∧ Below w.heap.size w w' := by
  have HR0 := Aside0.mk hr0
  have HC0 := Aside0.mk hc0
  clear hr0 hc0
  have HB := Aside0.mk (Below.refl w.heap.size w)
  have H : ((laws_big.f l0).bind fun t187 => (if t187 = true then (some true) else ((spec_DrawSeparationFor.f k l0).bind fun bt188 => ((impl_SeparationFor.f k bt188.1 bt188.2).bind fun bt190 => ((spec_SeparationFor.f k bt188.1 bt188.2).bind fun bt192 => ((spec_DrawGramsFor.f k l0).bind fun bt194 => ((impl_GramsFor.f k bt194.1 bt194.2).bind fun bt196 => ((spec_GramsFor.f k bt194.1 bt194.2).bind fun bt198 => (if bt190.2 = bt192.2 then (if bt190.1 = bt192.1 then (if bt196.2 = bt198.2 then (laws_FnSeparations.j0 k l0 bt188.1 bt188.2 bt190.1 bt190.2 bt194.1 bt194.2 bt196.1 bt196.2 (bt196.1 != bt198.1)) else (laws_FnSeparations.j0 k l0 bt188.1 bt188.2 bt190.1 bt190.2 bt194.1 bt194.2 bt196.1 bt196.2 true)) else (laws_FnSeparations.j0 k l0 bt188.1 bt188.2 bt190.1 bt190.2 bt194.1 bt194.2 bt196.1 bt196.2 true)) else (laws_FnSeparations.j0 k l0 bt188.1 bt188.2 bt190.1 bt190.2 bt194.1 bt194.2 bt196.1 bt196.2 true)))))))))) = some r := h
  clear h
  replace H := Option.bind_eq_some_iff.mp H
  obtain ⟨t187, A20, H⟩ := H
  replace H : (if t187 = true then (some true) else ((spec_DrawSeparationFor.f k l0).bind fun bt188 => ((impl_SeparationFor.f k bt188.1 bt188.2).bind fun bt190 => ((spec_SeparationFor.f k bt188.1 bt188.2).bind fun bt192 => ((spec_DrawGramsFor.f k l0).bind fun bt194 => ((impl_GramsFor.f k bt194.1 bt194.2).bind fun bt196 => ((spec_GramsFor.f k bt194.1 bt194.2).bind fun bt198 => (if bt190.2 = bt192.2 then (if bt190.1 = bt192.1 then (if bt196.2 = bt198.2 then (laws_FnSeparations.j0 k l0 bt188.1 bt188.2 bt190.1 bt190.2 bt194.1 bt194.2 bt196.1 bt196.2 (bt196.1 != bt198.1)) else (laws_FnSeparations.j0 k l0 bt188.1 bt188.2 bt190.1 bt190.2 bt194.1 bt194.2 bt196.1 bt196.2 true)) else (laws_FnSeparations.j0 k l0 bt188.1 bt188.2 bt190.1 bt190.2 bt194.1 bt194.2 bt196.1 bt196.2 true)) else (laws_FnSeparations.j0 k l0 bt188.1 bt188.2 bt190.1 bt190.2 bt194.1 bt194.2 bt196.1 bt196.2 true))))))))) = some r := H
  have A2 := Aside0.mk A20
  clear A20
  by_cases c3 : t187 = true
  · subst c3
    have H1 : (some true) = some r := by rw [if_pos rfl] at H; exact H
    clear H
    have H := H1
    clear H1
    obtain rfl := Option.some.inj H
    go_enter Try.func6, Try.ntmps6
    go_wp2_with (first | ((with_reducible refine gate_callee (f := 24) rfl ?_); refine goesL_ (some 23) rfl rfl Try.func24 (by kernel_rfl) rfl #[.slice A0 l0.length c0] rfl (by (try simp only [List.map_toArray, List.map_cons, List.map_nil]); first | done | rfl | (simp only [List.length_drop, List.length_take]; rfl)) ?_; (with_reducible refine (laws_big.calls _ _ l0 true _ ?side1 ?side2 A2.out).mono ?_); (case side1 => repeat (first | exact HR0.out | (with_reducible refine Kd.C_alloc ?_ _) | (with_reducible refine Kd.C_drewN ?_ _) | (with_reducible refine Kd.C_drew ?_))); (case side2 => exact HC0.out); rintro e w' ⟨rfl, ⟨nd, rfl⟩⟩; refine ⟨_, rfl, ?_⟩))
    go_ret
    exact ⟨by first | rfl | (simp [errW_none, errW_some] <;> rfl) | (simp [*, errW_none, errW_some] <;> rfl), by repeat (first | (with_reducible first | exact HB.out | apply below_alloc | apply pw_below_drewN | apply below_drew1) | exact HB.out)⟩
  · replace c3 := Bool.eq_false_iff.mpr c3
    subst c3
    have H1 : ((spec_DrawSeparationFor.f k l0).bind fun bt188 => ((impl_SeparationFor.f k bt188.1 bt188.2).bind fun bt190 => ((spec_SeparationFor.f k bt188.1 bt188.2).bind fun bt192 => ((spec_DrawGramsFor.f k l0).bind fun bt194 => ((impl_GramsFor.f k bt194.1 bt194.2).bind fun bt196 => ((spec_GramsFor.f k bt194.1 bt194.2).bind fun bt198 => (if bt190.2 = bt192.2 then (if bt190.1 = bt192.1 then (if bt196.2 = bt198.2 then (laws_FnSeparations.j0 k l0 bt188.1 bt188.2 bt190.1 bt190.2 bt194.1 bt194.2 bt196.1 bt196.2 (bt196.1 != bt198.1)) else (laws_FnSeparations.j0 k l0 bt188.1 bt188.2 bt190.1 bt190.2 bt194.1 bt194.2 bt196.1 bt196.2 true)) else (laws_FnSeparations.j0 k l0 bt188.1 bt188.2 bt190.1 bt190.2 bt194.1 bt194.2 bt196.1 bt196.2 true)) else (laws_FnSeparations.j0 k l0 bt188.1 bt188.2 bt190.1 bt190.2 bt194.1 bt194.2 bt196.1 bt196.2 true)))))))) = some r := by rw [if_neg (show ¬ (false = true) by decide)] at H; exact H
    clear H
    have H := H1
    clear H1
    replace H := Option.bind_eq_some_iff.mp H
    obtain ⟨⟨t188, t189⟩, A40, H⟩ := H
    replace H : ((impl_SeparationFor.f k t188 t189).bind fun bt190 => ((spec_SeparationFor.f k t188 t189).bind fun bt192 => ((spec_DrawGramsFor.f k l0).bind fun bt194 => ((impl_GramsFor.f k bt194.1 bt194.2).bind fun bt196 => ((spec_GramsFor.f k bt194.1 bt194.2).bind fun bt198 => (if bt190.2 = bt192.2 then (if bt190.1 = bt192.1 then (if bt196.2 = bt198.2 then (laws_FnSeparations.j0 k l0 t188 t189 bt190.1 bt190.2 bt194.1 bt194.2 bt196.1 bt196.2 (bt196.1 != bt198.1)) else (laws_FnSeparations.j0 k l0 t188 t189 bt190.1 bt190.2 bt194.1 bt194.2 bt196.1 bt196.2 true)) else (laws_FnSeparations.j0 k l0 t188 t189 bt190.1 bt190.2 bt194.1 bt194.2 bt196.1 bt196.2 true)) else (laws_FnSeparations.j0 k l0 t188 t189 bt190.1 bt190.2 bt194.1 bt194.2 bt196.1 bt196.2 true))))))) = some r := H
    have A4 := Aside0.mk A40
    clear A40
    replace H := Option.bind_eq_some_iff.mp H
    obtain ⟨⟨t190, t191⟩, A50, H⟩ := H
    replace H : ((spec_SeparationFor.f k t188 t189).bind fun bt192 => ((spec_DrawGramsFor.f k l0).bind fun bt194 => ((impl_GramsFor.f k bt194.1 bt194.2).bind fun bt196 => ((spec_GramsFor.f k bt194.1 bt194.2).bind fun bt198 => (if t191 = bt192.2 then (if t190 = bt192.1 then (if bt196.2 = bt198.2 then (laws_FnSeparations.j0 k l0 t188 t189 t190 t191 bt194.1 bt194.2 bt196.1 bt196.2 (bt196.1 != bt198.1)) else (laws_FnSeparations.j0 k l0 t188 t189 t190 t191 bt194.1 bt194.2 bt196.1 bt196.2 true)) else (laws_FnSeparations.j0 k l0 t188 t189 t190 t191 bt194.1 bt194.2 bt196.1 bt196.2 true)) else (laws_FnSeparations.j0 k l0 t188 t189 t190 t191 bt194.1 bt194.2 bt196.1 bt196.2 true)))))) = some r := H
    have A5 := Aside0.mk A50
    clear A50
    replace H := Option.bind_eq_some_iff.mp H
    obtain ⟨⟨t192, t193⟩, A60, H⟩ := H
    replace H : ((spec_DrawGramsFor.f k l0).bind fun bt194 => ((impl_GramsFor.f k bt194.1 bt194.2).bind fun bt196 => ((spec_GramsFor.f k bt194.1 bt194.2).bind fun bt198 => (if t191 = t193 then (if t190 = t192 then (if bt196.2 = bt198.2 then (laws_FnSeparations.j0 k l0 t188 t189 t190 t191 bt194.1 bt194.2 bt196.1 bt196.2 (bt196.1 != bt198.1)) else (laws_FnSeparations.j0 k l0 t188 t189 t190 t191 bt194.1 bt194.2 bt196.1 bt196.2 true)) else (laws_FnSeparations.j0 k l0 t188 t189 t190 t191 bt194.1 bt194.2 bt196.1 bt196.2 true)) else (laws_FnSeparations.j0 k l0 t188 t189 t190 t191 bt194.1 bt194.2 bt196.1 bt196.2 true))))) = some r := H
    have A6 := Aside0.mk A60
    clear A60
    replace H := Option.bind_eq_some_iff.mp H
    obtain ⟨⟨t194, t195⟩, A70, H⟩ := H
    replace H : ((impl_GramsFor.f k t194 t195).bind fun bt196 => ((spec_GramsFor.f k t194 t195).bind fun bt198 => (if t191 = t193 then (if t190 = t192 then (if bt196.2 = bt198.2 then (laws_FnSeparations.j0 k l0 t188 t189 t190 t191 t194 t195 bt196.1 bt196.2 (bt196.1 != bt198.1)) else (laws_FnSeparations.j0 k l0 t188 t189 t190 t191 t194 t195 bt196.1 bt196.2 true)) else (laws_FnSeparations.j0 k l0 t188 t189 t190 t191 t194 t195 bt196.1 bt196.2 true)) else (laws_FnSeparations.j0 k l0 t188 t189 t190 t191 t194 t195 bt196.1 bt196.2 true)))) = some r := H
    have A7 := Aside0.mk A70
    clear A70
    replace H := Option.bind_eq_some_iff.mp H
    obtain ⟨⟨t196, t197⟩, A80, H⟩ := H
    replace H : ((spec_GramsFor.f k t194 t195).bind fun bt198 => (if t191 = t193 then (if t190 = t192 then (if t197 = bt198.2 then (laws_FnSeparations.j0 k l0 t188 t189 t190 t191 t194 t195 t196 t197 (t196 != bt198.1)) else (laws_FnSeparations.j0 k l0 t188 t189 t190 t191 t194 t195 t196 t197 true)) else (laws_FnSeparations.j0 k l0 t188 t189 t190 t191 t194 t195 t196 t197 true)) else (laws_FnSeparations.j0 k l0 t188 t189 t190 t191 t194 t195 t196 t197 true))) = some r := H
    have A8 := Aside0.mk A80
    clear A80
    replace H := Option.bind_eq_some_iff.mp H
    obtain ⟨⟨t198, t199⟩, A90, H⟩ := H
    replace H : (if t191 = t193 then (if t190 = t192 then (if t197 = t199 then (laws_FnSeparations.j0 k l0 t188 t189 t190 t191 t194 t195 t196 t197 (t196 != t198)) else (laws_FnSeparations.j0 k l0 t188 t189 t190 t191 t194 t195 t196 t197 true)) else (laws_FnSeparations.j0 k l0 t188 t189 t190 t191 t194 t195 t196 t197 true)) else (laws_FnSeparations.j0 k l0 t188 t189 t190 t191 t194 t195 t196 t197 true)) = some r := H
    have A9 := Aside0.mk A90
    clear A90
    have HC10 := Aside0.mk H
    clear H
    go_enter Try.func6, Try.ntmps6
    go_upto_region 9 with (first | ((with_reducible refine gate_callee (f := 24) rfl ?_); refine goesL_ (some 23) rfl rfl Try.func24 (by kernel_rfl) rfl #[.slice A0 l0.length c0] rfl (by (try simp only [List.map_toArray, List.map_cons, List.map_nil]); first | done | rfl | (simp only [List.length_drop, List.length_take]; rfl)) ?_; (with_reducible refine (laws_big.calls _ _ l0 false _ ?side1 ?side2 A2.out).mono ?_); (case side1 => repeat (first | exact HR0.out | (with_reducible refine Kd.C_alloc ?_ _) | (with_reducible refine Kd.C_drewN ?_ _) | (with_reducible refine Kd.C_drew ?_))); (case side2 => exact HC0.out); rintro e w' ⟨rfl, ⟨nd, rfl⟩⟩; refine ⟨_, rfl, ?_⟩) | ((with_reducible refine gate_callee (f := 25) rfl ?_); refine goesL_ (some 26) rfl rfl Try.func25 (by kernel_rfl) rfl #[.slice A0 l0.length c0] rfl (by (try simp only [List.map_toArray, List.map_cons, List.map_nil]); first | done | rfl | (simp only [List.length_drop, List.length_take]; rfl)) ?_; (with_reducible refine (spec_DrawSeparationFor.calls k _ _ l0 t188 t189 _ ?side1 ?side2 A4.out).mono ?_); (case side1 => repeat (first | exact HR0.out | (with_reducible refine Kd.C_alloc ?_ _) | (with_reducible refine Kd.C_drewN ?_ _) | (with_reducible refine Kd.C_drew ?_))); (case side2 => exact HC0.out); rintro e w11 ⟨rfl, hb⟩; refine ⟨_, rfl, ?_⟩; have n0_ := Aside0.mk (below_step (by repeat (first | (with_reducible first | exact HB.out | apply below_alloc | apply pw_below_drewN | apply below_drew1) | exact HB.out)) hb); clear HB; have HB := n0_; clear n0_; (try clear hb); (try clear hb2); (try clear hk); (try clear hi)) | ((with_reducible refine gate_callee (f := 18) rfl ?_); refine goesL_ (some 32) rfl rfl Try.func18 (by kernel_rfl) rfl #[.int .i64 t188, .int .i64 t189] rfl (by (try simp only [List.map_toArray, List.map_cons, List.map_nil]); first | done | rfl | (simp only [List.length_drop, List.length_take]; rfl)) ?_; (with_reducible refine (impl_SeparationFor.calls k t188 t189 t190 t191 _ A5.out).mono ?_); rintro e w' ⟨rfl, ⟨nd, rfl⟩⟩; refine ⟨_, rfl, ?_⟩) | ((with_reducible refine gate_callee (f := 17) rfl ?_); refine goesL_ (some 38) rfl rfl Try.func17 (by kernel_rfl) rfl #[.int .i64 t188, .int .i64 t189] rfl (by (try simp only [List.map_toArray, List.map_cons, List.map_nil]); first | done | rfl | (simp only [List.length_drop, List.length_take]; rfl)) ?_; (with_reducible refine (spec_SeparationFor.calls k t188 t189 t192 t193 _ A6.out).mono ?_); rintro e w' ⟨rfl, ⟨nd, rfl⟩⟩; refine ⟨_, rfl, ?_⟩) | ((with_reducible refine gate_callee (f := 26) rfl ?_); refine goesL_ (some 43) rfl rfl Try.func26 (by kernel_rfl) rfl #[.slice A0 l0.length c0] rfl (by (try simp only [List.map_toArray, List.map_cons, List.map_nil]); first | done | rfl | (simp only [List.length_drop, List.length_take]; rfl)) ?_; (with_reducible refine (spec_DrawGramsFor.calls k _ _ l0 t194 t195 _ ?side1 ?side2 A7.out).mono ?_); (case side1 => repeat (first | exact HR0.out | exact (Kd.C_below HR0.out (by repeat (first | (with_reducible first | exact HB.out | apply below_alloc | apply pw_below_drewN | apply below_drew1) | exact HB.out))) | (with_reducible refine Kd.C_alloc ?_ _) | (with_reducible refine Kd.C_drewN ?_ _) | (with_reducible refine Kd.C_drew ?_))); (case side2 => exact HC0.out); rintro e w12 ⟨rfl, hb⟩; refine ⟨_, rfl, ?_⟩; have n0_ := Aside0.mk (below_step (by repeat (first | (with_reducible first | exact HB.out | apply below_alloc | apply pw_below_drewN | apply below_drew1) | exact HB.out)) hb); clear HB; have HB := n0_; clear n0_; (try clear hb); (try clear hb2); (try clear hk); (try clear hi)) | ((with_reducible refine gate_callee (f := 16) rfl ?_); refine goesL_ (some 49) rfl rfl Try.func16 (by kernel_rfl) rfl #[.int .i64 t194, .int .i64 t195] rfl (by (try simp only [List.map_toArray, List.map_cons, List.map_nil]); first | done | rfl | (simp only [List.length_drop, List.length_take]; rfl)) ?_; (with_reducible refine (impl_GramsFor.calls k t194 t195 t196 t197 _ A8.out).mono ?_); rintro e w13 ⟨rfl, hb⟩; refine ⟨_, rfl, ?_⟩; have n0_ := Aside0.mk (below_step (by repeat (first | (with_reducible first | exact HB.out | apply below_alloc | apply pw_below_drewN | apply below_drew1) | exact HB.out)) hb); clear HB; have HB := n0_; clear n0_; (try clear hb); (try clear hb2); (try clear hk); (try clear hi)) | ((with_reducible refine gate_callee (f := 15) rfl ?_); refine goesL_ (some 55) rfl rfl Try.func15 (by kernel_rfl) rfl #[.int .i64 t194, .int .i64 t195] rfl (by (try simp only [List.map_toArray, List.map_cons, List.map_nil]); first | done | rfl | (simp only [List.length_drop, List.length_take]; rfl)) ?_; (with_reducible refine (spec_GramsFor.calls k t194 t195 t198 t199 _ A9.out).mono ?_); rintro e w14 ⟨rfl, hb⟩; refine ⟨_, rfl, ?_⟩; have n0_ := Aside0.mk (below_step (by repeat (first | (with_reducible first | exact HB.out | apply below_alloc | apply pw_below_drewN | apply below_drew1) | exact HB.out)) hb); clear HB; have HB := n0_; clear n0_; (try clear hb); (try clear hb2); (try clear hk); (try clear hi)))
    (try simp only [Act.put, List.setIfInBounds_toArray, List.set_cons_zero, List.set_cons_succ])
    go_cut [75] (fun v75 wc => ∃ (kq : Nat) (x75_9 : Bool), v75 = .bool x75_9 ∧ Aside0 (laws_FnSeparations.j0 kq l0 t188 t189 t190 t191 t194 t195 t196 t197 x75_9 = some r) ∧ Aside0 (kq ≤ k) ∧ Aside0 (Below w.heap.size w wc))
    case first =>
      have H := HC10.out
      clear HC10
      by_cases c15 : t191 = t193
      · rw [if_pos c15] at H
        have c15b0 : (t191 == t193) = true := beq_iff_eq.mpr c15
        have c15b1 : (t191 != t193) = false := bne_eq_false_iff_eq.mpr c15
        clear c15
        (first | rw [c15b0] | (simp only [i64_w, i32_w]; rw [c15b0]) | skip)
        by_cases c16 : t190 = t192
        · rw [if_pos c16] at H
          have c16b0 : (t190 == t192) = true := beq_iff_eq.mpr c16
          have c16b1 : (t190 != t192) = false := bne_eq_false_iff_eq.mpr c16
          clear c16
          by_cases c17 : t197 = t199
          · rw [if_pos c17] at H
            have c17b0 : (t197 == t199) = true := beq_iff_eq.mpr c17
            have c17b1 : (t197 != t199) = false := bne_eq_false_iff_eq.mpr c17
            clear c17
            have H' := Aside0.mk H
            clear H
            go_wp2
            go_meet
            case rel => exact ⟨_, ((t196 != t198)), (by first | rfl | (simp; done) | (simp [*]; done)), H', ⟨by first | omega | exact Nat.le_refl _⟩, ⟨by repeat (first | (with_reducible first | exact HB.out | apply below_alloc | apply pw_below_drewN | apply below_drew1) | exact HB.out)⟩⟩
          · rw [if_neg c17] at H
            have c17b0 : (t197 == t199) = false := beq_eq_false_iff_ne.mpr c17
            have c17b1 : (t197 != t199) = true := bne_iff_ne.mpr c17
            have H' := Aside0.mk H
            clear H
            go_wp2
            go_meet
            case rel => exact ⟨_, (true), (by first | rfl | (simp; done) | (simp [*]; done)), H', ⟨by first | omega | exact Nat.le_refl _⟩, ⟨by repeat (first | (with_reducible first | exact HB.out | apply below_alloc | apply pw_below_drewN | apply below_drew1) | exact HB.out)⟩⟩
        · rw [if_neg c16] at H
          have c16b0 : (t190 == t192) = false := beq_eq_false_iff_ne.mpr c16
          have c16b1 : (t190 != t192) = true := bne_iff_ne.mpr c16
          have H' := Aside0.mk H
          clear H
          go_wp2
          go_meet
          case rel => exact ⟨_, (true), (by first | rfl | (simp; done) | (simp [*]; done)), H', ⟨by first | omega | exact Nat.le_refl _⟩, ⟨by repeat (first | (with_reducible first | exact HB.out | apply below_alloc | apply pw_below_drewN | apply below_drew1) | exact HB.out)⟩⟩
      · rw [if_neg c15] at H
        have c15b0 : (t191 == t193) = false := beq_eq_false_iff_ne.mpr c15
        have c15b1 : (t191 != t193) = true := bne_iff_ne.mpr c15
        (first | rw [c15b0] | (simp only [i64_w, i32_w]; rw [c15b0]) | skip)
        have H' := Aside0.mk H
        clear H
        go_wp2
        go_meet
        case rel => exact ⟨_, (true), (by first | rfl | (simp; done) | (simp [*]; done)), H', ⟨by first | omega | exact Nat.le_refl _⟩, ⟨by repeat (first | (with_reducible first | exact HB.out | apply below_alloc | apply pw_below_drewN | apply below_drew1) | exact HB.out)⟩⟩
    case rest =>
      clear HC10
      try clear c1
      try clear c2
      try clear p2
      try clear c3
      try clear c6
      try clear c15
      try clear c15b0
      try clear c15b1
      try clear c16
      try clear c16b0
      try clear c16b1
      try clear c17
      try clear c17b0
      try clear c17b1
      obtain ⟨kq, x75_9, rfl, HA, HJ9, HB⟩ := hcut
      cases kq with
      | zero => exact absurd HA.out (by simp [laws_FnSeparations.j0])
      | succ kj9 =>
        have H := HA.out
        clear HA
        simp only [laws_FnSeparations.j0] at H
        by_cases c18 : x75_9 = true
        · subst c18
          have H1 : (some false) = some r := by rw [if_pos rfl] at H; exact H
          clear H
          have H := H1
          clear H1
          obtain rfl := Option.some.inj H
          go_wp2
          go_ret
          exact ⟨by first | rfl | (simp [errW_none, errW_some] <;> rfl) | (simp [*, errW_none, errW_some] <;> rfl), by repeat (first | (with_reducible first | exact HB.out | apply below_alloc | apply pw_below_drewN | apply below_drew1) | exact HB.out)⟩
        · replace c18 := Bool.eq_false_iff.mpr c18
          subst c18
          have H1 : (if t197 = 0 then ((impl_SeparationFor.f kj9 t194 t196).bind fun bt200 => (if bt200.2 = 0 then (laws_FnSeparations.j1 kj9 l0 t188 t189 t190 t191 t194 t195 t196 (decide (bt200.1 > t195))) else (laws_FnSeparations.j1 kj9 l0 t188 t189 t190 t191 t194 t195 t196 true))) else (laws_FnSeparations.j2 kj9 l0 t188 t189 t190 t191)) = some r := by rw [if_neg (show ¬ (false = true) by decide)] at H; exact H
          clear H
          have H := H1
          clear H1
          have HC19 := Aside0.mk H
          clear H
          go_upto_if 77 with (fail)
          go_cut [] (fun wc => ∃ (kq : Nat), Aside0 (laws_FnSeparations.j2 kq l0 t188 t189 t190 t191 = some r) ∧ Aside0 (kq ≤ kj9) ∧ Aside0 (Below w.heap.size w wc))
          case first =>
            have H := HC19.out
            clear HC19
            by_cases c20 : t197 = 0
            · rw [if_pos c20] at H
              have c20b0 : (t197 == 0) = true := beq_iff_eq.mpr c20
              have c20b1 : (t197 != 0) = false := bne_eq_false_iff_eq.mpr c20
              clear c20
              (first | rw [c20b0] | (simp only [i64_w, i32_w]; rw [c20b0]) | skip)
              replace H := Option.bind_eq_some_iff.mp H
              obtain ⟨⟨t200, t201⟩, A210, H⟩ := H
              replace H : (if t201 = 0 then (laws_FnSeparations.j1 kj9 l0 t188 t189 t190 t191 t194 t195 t196 (decide (t200 > t195))) else (laws_FnSeparations.j1 kj9 l0 t188 t189 t190 t191 t194 t195 t196 true)) = some r := H
              have A21 := Aside0.mk A210
              clear A210
              have HC22 := Aside0.mk H
              clear H
              go_upto_region 13 with (first | ((with_reducible refine gate_callee (f := 18) rfl ?_); refine goesL_ (some 81) rfl rfl Try.func18 (by kernel_rfl) rfl #[.int .i64 t194, .int .i64 t196] rfl (by (try simp only [List.map_toArray, List.map_cons, List.map_nil]); first | done | rfl | (simp only [List.length_drop, List.length_take]; rfl)) ?_; (with_reducible refine (impl_SeparationFor.calls kj9 t194 t196 t200 t201 _ A21.out).mono ?_); rintro e w' ⟨rfl, ⟨nd, rfl⟩⟩; refine ⟨_, rfl, ?_⟩))
              (try simp only [Act.put, List.setIfInBounds_toArray, List.set_cons_zero, List.set_cons_succ])
              go_cut [90] (fun v90 wc => ∃ (kq : Nat) (x90_21 : Bool), v90 = .bool x90_21 ∧ Aside0 (laws_FnSeparations.j1 kq l0 t188 t189 t190 t191 t194 t195 t196 x90_21 = some r) ∧ Aside0 (kq ≤ kj9) ∧ Aside0 (Below w.heap.size w wc))
              case first =>
                have H := HC22.out
                clear HC22
                by_cases c23 : t201 = 0
                · rw [if_pos c23] at H
                  have c23b0 : (t201 == 0) = true := beq_iff_eq.mpr c23
                  have c23b1 : (t201 != 0) = false := bne_eq_false_iff_eq.mpr c23
                  clear c23
                  (first | rw [c23b0] | (simp only [i64_w, i32_w]; rw [c23b0]) | skip)
                  have H' := Aside0.mk H
                  clear H
                  go_wp2
                  go_meet
                  case rel => exact ⟨_, (decide (t200 > t195)), (by first | rfl | (simp; done) | (simp [*]; done)), H', ⟨by have := HJ9.out; first | omega | exact Nat.le_refl _⟩, ⟨by repeat (first | (with_reducible first | exact HB.out | apply below_alloc | apply pw_below_drewN | apply below_drew1) | exact HB.out)⟩⟩
                · rw [if_neg c23] at H
                  have c23b0 : (t201 == 0) = false := beq_eq_false_iff_ne.mpr c23
                  have c23b1 : (t201 != 0) = true := bne_iff_ne.mpr c23
                  (first | rw [c23b0] | (simp only [i64_w, i32_w]; rw [c23b0]) | skip)
                  have H' := Aside0.mk H
                  clear H
                  go_wp2
                  go_meet
                  case rel => exact ⟨_, (true), (by first | rfl | (simp; done) | (simp [*]; done)), H', ⟨by have := HJ9.out; first | omega | exact Nat.le_refl _⟩, ⟨by repeat (first | (with_reducible first | exact HB.out | apply below_alloc | apply pw_below_drewN | apply below_drew1) | exact HB.out)⟩⟩
              case rest =>
                clear HC22
                try clear c1
                try clear c2
                try clear p2
                try clear c3
                try clear c6
                try clear c15
                try clear c15b0
                try clear c15b1
                try clear c16
                try clear c16b0
                try clear c16b1
                try clear c17
                try clear c17b0
                try clear c17b1
                try clear c18
                try clear c20
                try clear c20b0
                try clear c20b1
                try clear c23
                try clear c23b0
                try clear c23b1
                try clear p2
                obtain ⟨kq, x90_21, rfl, HA, HJ21, HB⟩ := hcut
                cases kq with
                | zero => exact absurd HA.out (by simp [laws_FnSeparations.j1])
                | succ kj21 =>
                  have H := HA.out
                  clear HA
                  simp only [laws_FnSeparations.j1] at H
                  by_cases c24 : x90_21 = true
                  · subst c24
                    have H1 : (some false) = some r := by rw [if_pos rfl] at H; exact H
                    clear H
                    have H := H1
                    clear H1
                    obtain rfl := Option.some.inj H
                    go_wp2
                    go_ret
                    exact ⟨by first | rfl | (simp [errW_none, errW_some] <;> rfl) | (simp [*, errW_none, errW_some] <;> rfl), by repeat (first | (with_reducible first | exact HB.out | apply below_alloc | apply pw_below_drewN | apply below_drew1) | exact HB.out)⟩
                  · replace c24 := Bool.eq_false_iff.mpr c24
                    subst c24
                    have H1 : (if t196 < 100000000 then ((impl_SeparationFor.f kj21 t194 (wrap64 (t196 + 1))).bind fun bt202 => (if bt202.2 = 0 then (if bt202.1 ≤ t195 then (some false) else (laws_FnSeparations.j2 kj21 l0 t188 t189 t190 t191)) else (some false))) else (laws_FnSeparations.j2 kj21 l0 t188 t189 t190 t191)) = some r := by rw [if_neg (show ¬ (false = true) by decide)] at H; exact H
                    clear H
                    have H := H1
                    clear H1
                    by_cases c25 : t196 < 100000000
                    · rw [if_pos c25] at H
                      have c25b0 : decide (t196 < 100000000) = true := decide_eq_true c25
                      clear c25
                      replace H := Option.bind_eq_some_iff.mp H
                      obtain ⟨⟨t202, t203⟩, A260, H⟩ := H
                      replace H : (if t203 = 0 then (if t202 ≤ t195 then (some false) else (laws_FnSeparations.j2 kj21 l0 t188 t189 t190 t191)) else (some false)) = some r := H
                      have A26 := Aside0.mk A260
                      clear A260
                      by_cases c27 : t203 = 0
                      · rw [if_pos c27] at H
                        have c27b0 : (t203 == 0) = true := beq_iff_eq.mpr c27
                        have c27b1 : (t203 != 0) = false := bne_eq_false_iff_eq.mpr c27
                        clear c27
                        by_cases c28 : t202 ≤ t195
                        · rw [if_pos c28] at H
                          have c28b0 : decide (t202 ≤ t195) = true := decide_eq_true c28
                          clear c28
                          obtain rfl := Option.some.inj H
                          go_wp2_with (first | ((with_reducible refine gate_callee (f := 18) rfl ?_); refine goesL_ (some 97) rfl rfl Try.func18 (by kernel_rfl) rfl #[.int .i64 t194, .int .i64 (wrap64 (t196 + 1))] rfl (by (try simp only [List.map_toArray, List.map_cons, List.map_nil]); first | done | rfl | (simp only [List.length_drop, List.length_take]; rfl)) ?_; (with_reducible refine (impl_SeparationFor.calls kj21 t194 (wrap64 (t196 + 1)) t202 t203 _ A26.out).mono ?_); rintro e w' ⟨rfl, ⟨nd, rfl⟩⟩; refine ⟨_, rfl, ?_⟩))
                          go_ret
                          exact ⟨by first | rfl | (simp [errW_none, errW_some] <;> rfl) | (simp [*, errW_none, errW_some] <;> rfl), by repeat (first | (with_reducible first | exact HB.out | apply below_alloc | apply pw_below_drewN | apply below_drew1) | exact HB.out)⟩
                        · rw [if_neg c28] at H
                          have c28b0 : decide (t202 ≤ t195) = false := decide_eq_false c28
                          clear c28
                          have H' := Aside0.mk H
                          clear H
                          go_wp2_with (first | ((with_reducible refine gate_callee (f := 18) rfl ?_); refine goesL_ (some 97) rfl rfl Try.func18 (by kernel_rfl) rfl #[.int .i64 t194, .int .i64 (wrap64 (t196 + 1))] rfl (by (try simp only [List.map_toArray, List.map_cons, List.map_nil]); first | done | rfl | (simp only [List.length_drop, List.length_take]; rfl)) ?_; (with_reducible refine (impl_SeparationFor.calls kj21 t194 (wrap64 (t196 + 1)) t202 t203 _ A26.out).mono ?_); rintro e w' ⟨rfl, ⟨nd, rfl⟩⟩; refine ⟨_, rfl, ?_⟩))
                          go_meet
                          case rel => exact ⟨_, H', ⟨by have := HJ9.out; have := HJ21.out; first | omega | exact Nat.le_refl _⟩, ⟨by repeat (first | (with_reducible first | exact HB.out | apply below_alloc | apply pw_below_drewN | apply below_drew1) | exact HB.out)⟩⟩
                      · rw [if_neg c27] at H
                        have c27b0 : (t203 == 0) = false := beq_eq_false_iff_ne.mpr c27
                        have c27b1 : (t203 != 0) = true := bne_iff_ne.mpr c27
                        obtain rfl := Option.some.inj H
                        go_wp2_with (first | ((with_reducible refine gate_callee (f := 18) rfl ?_); refine goesL_ (some 97) rfl rfl Try.func18 (by kernel_rfl) rfl #[.int .i64 t194, .int .i64 (wrap64 (t196 + 1))] rfl (by (try simp only [List.map_toArray, List.map_cons, List.map_nil]); first | done | rfl | (simp only [List.length_drop, List.length_take]; rfl)) ?_; (with_reducible refine (impl_SeparationFor.calls kj21 t194 (wrap64 (t196 + 1)) t202 t203 _ A26.out).mono ?_); rintro e w' ⟨rfl, ⟨nd, rfl⟩⟩; refine ⟨_, rfl, ?_⟩))
                        go_ret
                        exact ⟨by first | rfl | (simp [errW_none, errW_some] <;> rfl) | (simp [*, errW_none, errW_some] <;> rfl), by repeat (first | (with_reducible first | exact HB.out | apply below_alloc | apply pw_below_drewN | apply below_drew1) | exact HB.out)⟩
                    · rw [if_neg c25] at H
                      have c25b0 : decide (t196 < 100000000) = false := decide_eq_false c25
                      clear c25
                      have H' := Aside0.mk H
                      clear H
                      go_wp2
                      go_meet
                      case rel => exact ⟨_, H', ⟨by have := HJ9.out; have := HJ21.out; first | omega | exact Nat.le_refl _⟩, ⟨by repeat (first | (with_reducible first | exact HB.out | apply below_alloc | apply pw_below_drewN | apply below_drew1) | exact HB.out)⟩⟩
            · rw [if_neg c20] at H
              have c20b0 : (t197 == 0) = false := beq_eq_false_iff_ne.mpr c20
              have c20b1 : (t197 != 0) = true := bne_iff_ne.mpr c20
              (first | rw [c20b0] | (simp only [i64_w, i32_w]; rw [c20b0]) | skip)
              have H' := Aside0.mk H
              clear H
              go_wp2
              go_meet
              case rel => exact ⟨_, H', ⟨by have := HJ9.out; first | omega | exact Nat.le_refl _⟩, ⟨by repeat (first | (with_reducible first | exact HB.out | apply below_alloc | apply pw_below_drewN | apply below_drew1) | exact HB.out)⟩⟩
          case rest =>
            clear HC19
            try clear c1
            try clear c2
            try clear p2
            try clear c3
            try clear c6
            try clear p6
            try clear c15
            try clear c15b0
            try clear c15b1
            try clear c16
            try clear c16b0
            try clear c16b1
            try clear c17
            try clear c17b0
            try clear c17b1
            try clear c18
            try clear c20
            try clear c20b0
            try clear c20b1
            try clear c23
            try clear c23b0
            try clear c23b1
            try clear c24
            try clear c25
            try clear c25b0
            try clear c26
            try clear c27
            try clear c27b0
            try clear c27b1
            try clear c28
            try clear c28b0
            try clear p2
            obtain ⟨kq, HA, HJ18, HB⟩ := hcut
            cases kq with
            | zero => exact absurd HA.out (by simp [laws_FnSeparations.j2])
            | succ kj18 =>
              have H := HA.out
              clear HA
              simp only [laws_FnSeparations.j2] at H
              by_cases c29 : t191 = 0
              · rw [if_pos c29] at H
                have c29b0 : (t191 == 0) = true := beq_iff_eq.mpr c29
                have c29b1 : (t191 != 0) = false := bne_eq_false_iff_eq.mpr c29
                clear c29
                have HC30 := Aside0.mk H
                clear H
                go_upto_region 22 with (fail)
                go_cut [138] (fun v138 wc => ∃ (kq : Nat) (x138_29 : Bool), v138 = .bool x138_29 ∧ Aside0 (laws_FnSeparations.j3 kq l0 t188 t189 t190 x138_29 = some r) ∧ Aside0 (kq ≤ kj18) ∧ Aside0 (Below w.heap.size w wc))
                case first =>
                  have H := HC30.out
                  clear HC30
                  by_cases c31 : (wrap64 ((wrap64 (t190 * t190)) * t190)) < (wrap64 ((wrap64 ((wrap64 (t188 * t188)) * t188)) * t189))
                  · rw [if_pos c31] at H
                    have c31b0 : decide ((wrap64 ((wrap64 (t190 * t190)) * t190)) < (wrap64 ((wrap64 ((wrap64 (t188 * t188)) * t188)) * t189))) = true := decide_eq_true c31
                    clear c31
                    (first | rw [c31b0] | (simp only [i64_w, i32_w]; rw [c31b0]) | skip)
                    have H' := Aside0.mk H
                    clear H
                    go_wp2
                    go_meet
                    case rel => exact ⟨_, (true), (by first | rfl | (simp; done) | (simp [*]; done)), H', ⟨by have := HJ9.out; have := HJ18.out; first | omega | exact Nat.le_refl _⟩, ⟨by repeat (first | (with_reducible first | exact HB.out | apply below_alloc | apply pw_below_drewN | apply below_drew1) | exact HB.out)⟩⟩
                  · rw [if_neg c31] at H
                    have c31b0 : decide ((wrap64 ((wrap64 (t190 * t190)) * t190)) < (wrap64 ((wrap64 ((wrap64 (t188 * t188)) * t188)) * t189))) = false := decide_eq_false c31
                    clear c31
                    (first | rw [c31b0] | (simp only [i64_w, i32_w]; rw [c31b0]) | skip)
                    by_cases c32 : t190 > 0
                    · rw [if_pos c32] at H
                      have c32b0 : decide (0 < t190) = true := decide_eq_true c32
                      clear c32
                      have H' := Aside0.mk H
                      clear H
                      go_wp2
                      go_meet
                      case rel => exact ⟨_, (decide ((wrap64 ((wrap64 ((wrap64 (t190 - 1)) * (wrap64 (t190 - 1)))) * (wrap64 (t190 - 1)))) ≥ (wrap64 ((wrap64 ((wrap64 (t188 * t188)) * t188)) * t189)))), (by first | rfl | (simp; done) | (simp [*]; done)), H', ⟨by have := HJ9.out; have := HJ18.out; first | omega | exact Nat.le_refl _⟩, ⟨by repeat (first | (with_reducible first | exact HB.out | apply below_alloc | apply pw_below_drewN | apply below_drew1) | exact HB.out)⟩⟩
                    · rw [if_neg c32] at H
                      have c32b0 : decide (0 < t190) = false := decide_eq_false c32
                      clear c32
                      have H' := Aside0.mk H
                      clear H
                      go_wp2
                      go_meet
                      case rel => exact ⟨_, (false), (by first | rfl | (simp; done) | (simp [*]; done)), H', ⟨by have := HJ9.out; have := HJ18.out; first | omega | exact Nat.le_refl _⟩, ⟨by repeat (first | (with_reducible first | exact HB.out | apply below_alloc | apply pw_below_drewN | apply below_drew1) | exact HB.out)⟩⟩
                case rest =>
                  clear HC30
                  try clear c1
                  try clear c2
                  try clear p2
                  try clear c3
                  try clear c6
                  try clear p6
                  try clear c15
                  try clear c15b0
                  try clear c15b1
                  try clear c16
                  try clear c16b0
                  try clear c16b1
                  try clear c17
                  try clear c17b0
                  try clear c17b1
                  try clear c18
                  try clear c20
                  try clear c20b0
                  try clear c20b1
                  try clear c23
                  try clear c23b0
                  try clear c23b1
                  try clear c24
                  try clear c25
                  try clear c25b0
                  try clear c26
                  try clear c27
                  try clear c27b0
                  try clear c27b1
                  try clear c28
                  try clear c28b0
                  try clear c29
                  try clear c29b0
                  try clear c29b1
                  try clear c31
                  try clear c31b0
                  try clear c32
                  try clear c32b0
                  try clear p2
                  try clear p6
                  obtain ⟨kq, x138_29, rfl, HA, HJ29, HB⟩ := hcut
                  cases kq with
                  | zero => exact absurd HA.out (by simp [laws_FnSeparations.j3])
                  | succ kj29 =>
                    have H := HA.out
                    clear HA
                    simp only [laws_FnSeparations.j3] at H
                    by_cases c33 : x138_29 = true
                    · subst c33
                      have H1 : (some false) = some r := by rw [if_pos rfl] at H; exact H
                      clear H
                      have H := H1
                      clear H1
                      obtain rfl := Option.some.inj H
                      go_wp2
                      go_ret
                      exact ⟨by first | rfl | (simp [errW_none, errW_some] <;> rfl) | (simp [*, errW_none, errW_some] <;> rfl), by repeat (first | (with_reducible first | exact HB.out | apply below_alloc | apply pw_below_drewN | apply below_drew1) | exact HB.out)⟩
                    · replace c33 := Bool.eq_false_iff.mpr c33
                      subst c33
                      have H1 : ((laws_roll.f kj29 l0 2701).bind fun bt204 => ((laws_dice_below.f bt204.1 bt204.2.1 bt204.2.2 (wrap64 (t189 + 1))).bind fun bt208 => ((impl_SeparationFor.f kj29 t188 bt208.1).bind fun bt211 => (if bt211.2 = 0 then (some (decide (bt211.1 ≤ t190))) else (some false))))) = some r := by rw [if_neg (show ¬ (false = true) by decide)] at H; exact H
                      clear H
                      have H := H1
                      clear H1
                      replace H := Option.bind_eq_some_iff.mp H
                      obtain ⟨⟨t204, t205, t206⟩, A340, H⟩ := H
                      replace H : ((laws_dice_below.f t204 t205 t206 (wrap64 (t189 + 1))).bind fun bt208 => ((impl_SeparationFor.f kj29 t188 bt208.1).bind fun bt211 => (if bt211.2 = 0 then (some (decide (bt211.1 ≤ t190))) else (some false)))) = some r := H
                      have A34 := Aside0.mk A340
                      clear A340
                      replace H := Option.bind_eq_some_iff.mp H
                      obtain ⟨⟨t208, t209, t210⟩, A350, H⟩ := H
                      replace H : ((impl_SeparationFor.f kj29 t188 t208).bind fun bt211 => (if bt211.2 = 0 then (some (decide (bt211.1 ≤ t190))) else (some false))) = some r := H
                      have A35 := Aside0.mk A350
                      clear A350
                      replace H := Option.bind_eq_some_iff.mp H
                      obtain ⟨⟨t211, t212⟩, A360, H⟩ := H
                      replace H : (if t212 = 0 then (some (decide (t211 ≤ t190))) else (some false)) = some r := H
                      have A36 := Aside0.mk A360
                      clear A360
                      by_cases c37 : t212 = 0
                      · rw [if_pos c37] at H
                        have c37b0 : (t212 == 0) = true := beq_iff_eq.mpr c37
                        have c37b1 : (t212 != 0) = false := bne_eq_false_iff_eq.mpr c37
                        clear c37
                        obtain rfl := Option.some.inj H
                        go_wp2_with (first | ((with_reducible refine gate_callee (f := 27) rfl ?_); refine goesL_ (some 142) rfl rfl Try.func27 (by kernel_rfl) rfl #[.slice A0 l0.length c0, .int .u64 2701] rfl (by (try simp only [List.map_toArray, List.map_cons, List.map_nil]); first | done | rfl | (simp only [List.length_drop, List.length_take]; rfl)) ?_; (with_reducible refine (laws_roll.calls kj29 _ _ l0 2701 t204 t205 t206 w _ ?side1 ?side2 ?side3 A34.out).mono ?_); (case side1 => repeat (first | (with_reducible first | exact HB.out | apply below_alloc | apply pw_below_drewN | apply below_drew1) | exact HB.out)); (case side2 => exact HR0.out); (case side3 => exact HC0.out); rintro e w38 ⟨g207, rfl, hi, hb, hb2⟩; refine ⟨_, rfl, ?_⟩; have n0_ := Aside0.mk (hb); have n1_ := Aside0.mk (hi); clear HB; have HB := n0_; have HI207 := n1_; clear n0_ n1_; (try clear hb); (try clear hb2); (try clear hk); (try clear hi)) | ((with_reducible refine gate_callee (f := 28) rfl ?_); refine goesL_ (some 145) rfl rfl Try.func28 (by kernel_rfl) rfl #[.pointer (some ⟨g207, 0, none⟩), .int .i64 (wrap64 (t189 + 1))] rfl (by (try simp only [List.map_toArray, List.map_cons, List.map_nil]); first | done | rfl | (simp only [List.length_drop, List.length_take]; rfl)) ?_; (with_reducible refine (laws_dice_below.calls g207 t204 t205 t206 (wrap64 (t189 + 1)) t208 t209 t210 w _ ?side1 ?side2 A35.out).mono ?_); (case side1 => repeat (first | (with_reducible first | exact HI207.out | apply IsS73.alloc | apply IsS73.drewN | apply IsS73.drew | apply IsS73.set_1 | apply IsS73.set_2) | exact HI207.out)); (case side2 => repeat (first | (with_reducible first | exact HB.out | apply below_alloc | apply pw_below_drewN | apply below_drew1 | refine below_set ?_ (IsS73.ge HI207.out)) | exact HB.out)); rintro e w39 ⟨rfl, hi, hb, hk⟩; refine ⟨_, rfl, ?_⟩; have n0_ := Aside0.mk (hb); have n1_ := Aside0.mk (hi); clear HB; clear HI207; have HB := n0_; have HI207 := n1_; clear n0_ n1_; (try clear hb); (try clear hb2); (try clear hk); (try clear hi)) | ((with_reducible refine gate_callee (f := 18) rfl ?_); refine goesL_ (some 146) rfl rfl Try.func18 (by kernel_rfl) rfl #[.int .i64 t188, .int .i64 t208] rfl (by (try simp only [List.map_toArray, List.map_cons, List.map_nil]); first | done | rfl | (simp only [List.length_drop, List.length_take]; rfl)) ?_; (with_reducible refine (impl_SeparationFor.calls kj29 t188 t208 t211 t212 _ A36.out).mono ?_); rintro e w' ⟨rfl, ⟨nd, rfl⟩⟩; refine ⟨_, rfl, ?_⟩))
                        go_ret
                        exact ⟨by first | rfl | (simp [errW_none, errW_some] <;> rfl) | (simp [*, errW_none, errW_some] <;> rfl), by repeat (first | (with_reducible first | exact HB.out | apply below_alloc | apply pw_below_drewN | apply below_drew1 | refine below_set ?_ (IsS73.ge HI207.out)) | exact HB.out)⟩
                      · rw [if_neg c37] at H
                        have c37b0 : (t212 == 0) = false := beq_eq_false_iff_ne.mpr c37
                        have c37b1 : (t212 != 0) = true := bne_iff_ne.mpr c37
                        obtain rfl := Option.some.inj H
                        go_wp2_with (first | ((with_reducible refine gate_callee (f := 27) rfl ?_); refine goesL_ (some 142) rfl rfl Try.func27 (by kernel_rfl) rfl #[.slice A0 l0.length c0, .int .u64 2701] rfl (by (try simp only [List.map_toArray, List.map_cons, List.map_nil]); first | done | rfl | (simp only [List.length_drop, List.length_take]; rfl)) ?_; (with_reducible refine (laws_roll.calls kj29 _ _ l0 2701 t204 t205 t206 w _ ?side1 ?side2 ?side3 A34.out).mono ?_); (case side1 => repeat (first | (with_reducible first | exact HB.out | apply below_alloc | apply pw_below_drewN | apply below_drew1) | exact HB.out)); (case side2 => exact HR0.out); (case side3 => exact HC0.out); rintro e w40 ⟨g207, rfl, hi, hb, hb2⟩; refine ⟨_, rfl, ?_⟩; have n0_ := Aside0.mk (hb); have n1_ := Aside0.mk (hi); clear HB; have HB := n0_; have HI207 := n1_; clear n0_ n1_; (try clear hb); (try clear hb2); (try clear hk); (try clear hi)) | ((with_reducible refine gate_callee (f := 28) rfl ?_); refine goesL_ (some 145) rfl rfl Try.func28 (by kernel_rfl) rfl #[.pointer (some ⟨g207, 0, none⟩), .int .i64 (wrap64 (t189 + 1))] rfl (by (try simp only [List.map_toArray, List.map_cons, List.map_nil]); first | done | rfl | (simp only [List.length_drop, List.length_take]; rfl)) ?_; (with_reducible refine (laws_dice_below.calls g207 t204 t205 t206 (wrap64 (t189 + 1)) t208 t209 t210 w _ ?side1 ?side2 A35.out).mono ?_); (case side1 => repeat (first | (with_reducible first | exact HI207.out | apply IsS73.alloc | apply IsS73.drewN | apply IsS73.drew | apply IsS73.set_1 | apply IsS73.set_2) | exact HI207.out)); (case side2 => repeat (first | (with_reducible first | exact HB.out | apply below_alloc | apply pw_below_drewN | apply below_drew1 | refine below_set ?_ (IsS73.ge HI207.out)) | exact HB.out)); rintro e w41 ⟨rfl, hi, hb, hk⟩; refine ⟨_, rfl, ?_⟩; have n0_ := Aside0.mk (hb); have n1_ := Aside0.mk (hi); clear HB; clear HI207; have HB := n0_; have HI207 := n1_; clear n0_ n1_; (try clear hb); (try clear hb2); (try clear hk); (try clear hi)) | ((with_reducible refine gate_callee (f := 18) rfl ?_); refine goesL_ (some 146) rfl rfl Try.func18 (by kernel_rfl) rfl #[.int .i64 t188, .int .i64 t208] rfl (by (try simp only [List.map_toArray, List.map_cons, List.map_nil]); first | done | rfl | (simp only [List.length_drop, List.length_take]; rfl)) ?_; (with_reducible refine (impl_SeparationFor.calls kj29 t188 t208 t211 t212 _ A36.out).mono ?_); rintro e w' ⟨rfl, ⟨nd, rfl⟩⟩; refine ⟨_, rfl, ?_⟩))
                        go_ret
                        exact ⟨by first | rfl | (simp [errW_none, errW_some] <;> rfl) | (simp [*, errW_none, errW_some] <;> rfl), by repeat (first | (with_reducible first | exact HB.out | apply below_alloc | apply pw_below_drewN | apply below_drew1 | refine below_set ?_ (IsS73.ge HI207.out)) | exact HB.out)⟩
              · rw [if_neg c29] at H
                have c29b0 : (t191 == 0) = false := beq_eq_false_iff_ne.mpr c29
                have c29b1 : (t191 != 0) = true := bne_iff_ne.mpr c29
                obtain rfl := Option.some.inj H
                go_wp2
                go_ret
                exact ⟨by first | rfl | (simp [errW_none, errW_some] <;> rfl) | (simp [*, errW_none, errW_some] <;> rfl), by repeat (first | (with_reducible first | exact HB.out | apply below_alloc | apply pw_below_drewN | apply below_drew1) | exact HB.out)⟩

/-- THE ONE PURE STATEMENT of laws_FnSeparations: yours. -/
def laws_FnSeparations.Pure : Prop := ∀ (l0 : List Int), l0.length ≤ maxLen → l0.length * 1 ≤ 140737488351232 → (∀ x ∈ l0, (Lit.int .u8 x).wf = true) → ∃ k, laws_FnSeparations.f k l0 = some true
theorem laws_FnSeparations.walk (P : laws_FnSeparations.Pure) (a0 : Option Addr) (len0 cap0 : Nat) (z0 : List Int) (w : World) (w0 : (a0 = none ∧ len0 = 0 ∧ cap0 = 0 ∧ z0 = []) ∨ ∃ x, a0 = some x ∧ len0 ≤ cap0 ∧ cap0 ≤ maxLen ∧ z0.length = cap0 ∧ (∀ i, i < z0.length → w.cell? (x.add i) = some (.int .u8 (z0.getD i 0))) ∧ ∀ n ∈ z0, (Lit.int .u8 n).wf = true) (y0 : len0 * 1 ≤ 140737488351232) :
    Calls Try.prog 6 #[.slice a0 len0 cap0] w fun e w' => e = .returned (.bool true) ∧ Below w.heap.size w w' := by
  obtain ⟨l0, rfl, hr0, hm0, hw0, hc0⟩ := ReadsInt.ofRowC w0
  obtain ⟨k, h⟩ := P l0 hm0 y0 hw0
  refine (laws_FnSeparations.calls k _ _ l0 true w (Kd.C_of_reads (d := (0 : Int)) (h1 := fun _ => rfl) hr0) hc0 h).mono ?_
  rintro e w' ⟨rfl, hd⟩
  exact ⟨rfl, hd⟩

end Go.Proofs.Ytmhnkhealidjjaa.PFnSeparations
