/- Functions and contracts that FnLoadings reaches (8 of 8). -/
import Derived.Test.YtjnfimhckeihhaaQFnLoadingsx6
namespace Go.Proofs.Ytjnfimhckeihhaa.PFnLoadings
open Go.RowKit Go.Proofs.YtjnfimhckeihhaaW.PrintWords Go.Proofs.YtjnfimhckeihhaaW.PrintLast Go.Proofs.YtjnfimhckeihhaaW.PrintMore
attribute [local go_sem] max2_int min2_int max_two min_two max_three min_three max_four min_four   -- for this text's walks alone
set_option linter.unusedVariables false
set_option linter.unusedSimpArgs false

/-! ### laws_FnLoadings: function 11 -/
mutual
def laws_FnLoadings.j0 : Nat → List (S55) → Int → List Int → Int → Int → Bool → Option (Bool)
  | 0, _, _, _, _, _, _ => none
  | k + 1, x3, x4, x5, x6, x9, x119 => if x119 = true then (some false) else (if x6 = 0 then ((impl_IsLoading.f k x3 x4 x5).bind fun bt408 => (laws_FnLoadings.l0 k x3 x4 x5 x9 bt408.1 bt408.2 0 0)) else (some true))
def laws_FnLoadings.l0 : Nat → List (S55) → Int → List Int → Int → Bool → Int → Int → Int → Option (Bool)
  | 0, _, _, _, _, _, _, _, _ => none
  | k + 1, x3, x4, x5, x9, x20, x21, x22, x23 => if x23 < (x5.length : Int) then (if 0 ≤ x23 then (if (rd x5 x23) > x22 then (some false) else (laws_FnLoadings.l0 k x3 x4 x5 x9 x20 x21 (mx x22 (wrap64 ((rd x5 x23) + 1))) (wrap64 (x23 + 1)))) else (none)) else (if x21 = 0 then (if x20 = true then (laws_FnLoadings.j2 k x3 x4 x9 (x22 != x9)) else (laws_FnLoadings.j2 k x3 x4 x9 true)) else (laws_FnLoadings.j2 k x3 x4 x9 true))
def laws_FnLoadings.j2 : Nat → List (S55) → Int → Int → Bool → Option (Bool)
  | 0, _, _, _, _ => none
  | k + 1, x3, x4, x9, x158 => if x158 = true then (some false) else (if x9 < 2 then (some true) else ((impl_CountLoadings.f k x3 x4 (wrap64 (x9 - 1))).bind fun bt412 => ((impl_CountLoadings.f k x3 x4 x9).bind fun bt414 => (if bt412.2 = 0 then (if bt412.1 = 0 then (if bt414.2 = 0 then (some (decide (bt414.1 > 0))) else (some false)) else (some false)) else (some false)))))
end
def laws_FnLoadings.f (k : Nat) (l0 : List Int) : Option (Bool) := (laws_big.f l0).bind fun t378 => (if t378 = true then (some true) else ((spec_DrawFirstLoading.f k l0).bind fun bt379 => ((impl_FirstLoading.f k bt379.1 bt379.2).bind fun bt383 => ((spec_FirstLoading.f k bt379.1 bt379.2).bind fun bt387 => ((impl_FewestVehicles.f k bt379.1 bt379.2).bind fun bt391 => ((spec_FewestVehicles.f k bt379.1 bt379.2).bind fun bt393 => ((spec_DrawIsLoading.f k l0).bind fun bt395 => ((impl_IsLoading.f k bt395.1 bt395.2.1 bt395.2.2).bind fun bt402 => ((spec_IsLoading.f k bt395.1 bt395.2.1 bt395.2.2).bind fun bt404 => (if bt383.2 = bt387.2 then ((laws_likeInts.f k bt383.1 bt387.1).bind fun t406 => (if t406 = true then (if bt391.2 = bt393.2 then (if bt391.1 = bt393.1 then (if bt402.2 = bt404.2 then (if (bt402.1 != bt404.1) = true then (laws_FnLoadings.j0 k bt379.1 bt379.2 bt383.1 bt383.2 bt391.1 true) else (if bt391.2 = bt383.2 then ((impl_AreBoxes.f k bt379.1).bind fun t407 => (laws_FnLoadings.j0 k bt379.1 bt379.2 bt383.1 bt383.2 bt391.1 (t407 != (bt387.2 != 1)))) else (laws_FnLoadings.j0 k bt379.1 bt379.2 bt383.1 bt383.2 bt391.1 true))) else (laws_FnLoadings.j0 k bt379.1 bt379.2 bt383.1 bt383.2 bt391.1 true)) else (laws_FnLoadings.j0 k bt379.1 bt379.2 bt383.1 bt383.2 bt391.1 true)) else (laws_FnLoadings.j0 k bt379.1 bt379.2 bt383.1 bt383.2 bt391.1 true)) else (laws_FnLoadings.j0 k bt379.1 bt379.2 bt383.1 bt383.2 bt391.1 true))) else (laws_FnLoadings.j0 k bt379.1 bt379.2 bt383.1 bt383.2 bt391.1 true)))))))))))
theorem laws_FnLoadings.mono_l : ∀ k, (∀ y0 y1 y2 y3 y4 y5, LeO (laws_FnLoadings.j0 k y0 y1 y2 y3 y4 y5) (laws_FnLoadings.j0 (k + 1) y0 y1 y2 y3 y4 y5)) ∧ (∀ y0 y1 y2 y3 y4 y5 y6 y7, LeO (laws_FnLoadings.l0 k y0 y1 y2 y3 y4 y5 y6 y7) (laws_FnLoadings.l0 (k + 1) y0 y1 y2 y3 y4 y5 y6 y7)) ∧ (∀ y0 y1 y2 y3, LeO (laws_FnLoadings.j2 k y0 y1 y2 y3) (laws_FnLoadings.j2 (k + 1) y0 y1 y2 y3))
  | 0 => ⟨fun _ _ _ _ _ _ r h => by simp [laws_FnLoadings.j0] at h, fun _ _ _ _ _ _ _ _ r h => by simp [laws_FnLoadings.l0] at h, fun _ _ _ _ r h => by simp [laws_FnLoadings.j2] at h⟩
  | k + 1 => by
    obtain ⟨ih0, ih1, ih2⟩ := laws_FnLoadings.mono_l k
    refine ⟨?_, ?_, ?_⟩
    · intro y0 y1 y2 y3 y4 y5
      unfold laws_FnLoadings.j0
      repeat' first
      | (with_reducible exact ih0 _ _ _ _ _ _)
      | (with_reducible exact ih1 _ _ _ _ _ _ _ _)
      | (with_reducible exact ih2 _ _ _ _)
      | (with_reducible exact impl_AreBoxes.mono _ _)
      | (with_reducible exact impl_CountLoadings.mono _ _ _ _)
      | (with_reducible exact impl_FewestVehicles.mono _ _ _)
      | (with_reducible exact impl_FirstLoading.mono _ _ _)
      | (with_reducible exact impl_IsLoading.mono _ _ _ _)
      | (with_reducible exact laws_likeInts.mono _ _ _)
      | (with_reducible exact spec_DrawFirstLoading.mono _ _)
      | (with_reducible exact spec_DrawIsLoading.mono _ _)
      | (with_reducible exact spec_FewestVehicles.mono _ _ _)
      | (with_reducible exact spec_FirstLoading.mono _ _ _)
      | (with_reducible exact spec_IsLoading.mono _ _ _ _)
      | (with_reducible exact LeO.refl _)
      | (with_reducible exact LeO.none _)
      | (with_reducible refine LeO.ite ?_ ?_)
      | (with_reducible refine LeO.bind ?_ (fun _ => ?_))
      | exact ih0 _ _ _ _ _ _
      | exact ih1 _ _ _ _ _ _ _ _
      | exact ih2 _ _ _ _
      | exact impl_AreBoxes.mono _ _
      | exact impl_CountLoadings.mono _ _ _ _
      | exact impl_FewestVehicles.mono _ _ _
      | exact impl_FirstLoading.mono _ _ _
      | exact impl_IsLoading.mono _ _ _ _
      | exact laws_likeInts.mono _ _ _
      | exact spec_DrawFirstLoading.mono _ _
      | exact spec_DrawIsLoading.mono _ _
      | exact spec_FewestVehicles.mono _ _ _
      | exact spec_FirstLoading.mono _ _ _
      | exact spec_IsLoading.mono _ _ _ _
      | exact LeO.none _
      | refine LeO.ite ?_ ?_
      | refine LeO.bind ?_ (fun _ => ?_)
    · intro y0 y1 y2 y3 y4 y5 y6 y7
      unfold laws_FnLoadings.l0
      repeat' first
      | (with_reducible exact ih0 _ _ _ _ _ _)
      | (with_reducible exact ih1 _ _ _ _ _ _ _ _)
      | (with_reducible exact ih2 _ _ _ _)
      | (with_reducible exact impl_AreBoxes.mono _ _)
      | (with_reducible exact impl_CountLoadings.mono _ _ _ _)
      | (with_reducible exact impl_FewestVehicles.mono _ _ _)
      | (with_reducible exact impl_FirstLoading.mono _ _ _)
      | (with_reducible exact impl_IsLoading.mono _ _ _ _)
      | (with_reducible exact laws_likeInts.mono _ _ _)
      | (with_reducible exact spec_DrawFirstLoading.mono _ _)
      | (with_reducible exact spec_DrawIsLoading.mono _ _)
      | (with_reducible exact spec_FewestVehicles.mono _ _ _)
      | (with_reducible exact spec_FirstLoading.mono _ _ _)
      | (with_reducible exact spec_IsLoading.mono _ _ _ _)
      | (with_reducible exact LeO.refl _)
      | (with_reducible exact LeO.none _)
      | (with_reducible refine LeO.ite ?_ ?_)
      | (with_reducible refine LeO.bind ?_ (fun _ => ?_))
      | exact ih0 _ _ _ _ _ _
      | exact ih1 _ _ _ _ _ _ _ _
      | exact ih2 _ _ _ _
      | exact impl_AreBoxes.mono _ _
      | exact impl_CountLoadings.mono _ _ _ _
      | exact impl_FewestVehicles.mono _ _ _
      | exact impl_FirstLoading.mono _ _ _
      | exact impl_IsLoading.mono _ _ _ _
      | exact laws_likeInts.mono _ _ _
      | exact spec_DrawFirstLoading.mono _ _
      | exact spec_DrawIsLoading.mono _ _
      | exact spec_FewestVehicles.mono _ _ _
      | exact spec_FirstLoading.mono _ _ _
      | exact spec_IsLoading.mono _ _ _ _
      | exact LeO.none _
      | refine LeO.ite ?_ ?_
      | refine LeO.bind ?_ (fun _ => ?_)
    · intro y0 y1 y2 y3
      unfold laws_FnLoadings.j2
      repeat' first
      | (with_reducible exact ih0 _ _ _ _ _ _)
      | (with_reducible exact ih1 _ _ _ _ _ _ _ _)
      | (with_reducible exact ih2 _ _ _ _)
      | (with_reducible exact impl_AreBoxes.mono _ _)
      | (with_reducible exact impl_CountLoadings.mono _ _ _ _)
      | (with_reducible exact impl_FewestVehicles.mono _ _ _)
      | (with_reducible exact impl_FirstLoading.mono _ _ _)
      | (with_reducible exact impl_IsLoading.mono _ _ _ _)
      | (with_reducible exact laws_likeInts.mono _ _ _)
      | (with_reducible exact spec_DrawFirstLoading.mono _ _)
      | (with_reducible exact spec_DrawIsLoading.mono _ _)
      | (with_reducible exact spec_FewestVehicles.mono _ _ _)
      | (with_reducible exact spec_FirstLoading.mono _ _ _)
      | (with_reducible exact spec_IsLoading.mono _ _ _ _)
      | (with_reducible exact LeO.refl _)
      | (with_reducible exact LeO.none _)
      | (with_reducible refine LeO.ite ?_ ?_)
      | (with_reducible refine LeO.bind ?_ (fun _ => ?_))
      | exact ih0 _ _ _ _ _ _
      | exact ih1 _ _ _ _ _ _ _ _
      | exact ih2 _ _ _ _
      | exact impl_AreBoxes.mono _ _
      | exact impl_CountLoadings.mono _ _ _ _
      | exact impl_FewestVehicles.mono _ _ _
      | exact impl_FirstLoading.mono _ _ _
      | exact impl_IsLoading.mono _ _ _ _
      | exact laws_likeInts.mono _ _ _
      | exact spec_DrawFirstLoading.mono _ _
      | exact spec_DrawIsLoading.mono _ _
      | exact spec_FewestVehicles.mono _ _ _
      | exact spec_FirstLoading.mono _ _ _
      | exact spec_IsLoading.mono _ _ _ _
      | exact LeO.none _
      | refine LeO.ite ?_ ?_
      | refine LeO.bind ?_ (fun _ => ?_)
theorem laws_FnLoadings.mono : ∀ a0 k, LeO (laws_FnLoadings.f k a0) (laws_FnLoadings.f (k + 1) a0) := by
  intro a0 k
  obtain ⟨ih0, ih1, ih2⟩ := laws_FnLoadings.mono_l k
  unfold laws_FnLoadings.f
  repeat' first
      | (with_reducible exact ih0 _ _ _ _ _ _)
      | (with_reducible exact ih1 _ _ _ _ _ _ _ _)
      | (with_reducible exact ih2 _ _ _ _)
      | (with_reducible exact impl_AreBoxes.mono _ _)
      | (with_reducible exact impl_CountLoadings.mono _ _ _ _)
      | (with_reducible exact impl_FewestVehicles.mono _ _ _)
      | (with_reducible exact impl_FirstLoading.mono _ _ _)
      | (with_reducible exact impl_IsLoading.mono _ _ _ _)
      | (with_reducible exact laws_likeInts.mono _ _ _)
      | (with_reducible exact spec_DrawFirstLoading.mono _ _)
      | (with_reducible exact spec_DrawIsLoading.mono _ _)
      | (with_reducible exact spec_FewestVehicles.mono _ _ _)
      | (with_reducible exact spec_FirstLoading.mono _ _ _)
      | (with_reducible exact spec_IsLoading.mono _ _ _ _)
      | (with_reducible exact LeO.refl _)
      | (with_reducible exact LeO.none _)
      | (with_reducible refine LeO.ite ?_ ?_)
      | (with_reducible refine LeO.bind ?_ (fun _ => ?_))
      | exact ih0 _ _ _ _ _ _
      | exact ih1 _ _ _ _ _ _ _ _
      | exact ih2 _ _ _ _
      | exact impl_AreBoxes.mono _ _
      | exact impl_CountLoadings.mono _ _ _ _
      | exact impl_FewestVehicles.mono _ _ _
      | exact impl_FirstLoading.mono _ _ _
      | exact impl_IsLoading.mono _ _ _ _
      | exact laws_likeInts.mono _ _ _
      | exact spec_DrawFirstLoading.mono _ _
      | exact spec_DrawIsLoading.mono _ _
      | exact spec_FewestVehicles.mono _ _ _
      | exact spec_FirstLoading.mono _ _ _
      | exact spec_IsLoading.mono _ _ _ _
      | exact LeO.none _
      | refine LeO.ite ?_ ?_
      | refine LeO.bind ?_ (fun _ => ?_)
set_option maxHeartbeats 8000000 in
set_option maxRecDepth 100000 in
theorem laws_FnLoadings.calls (k : Nat) (A0 : Option Addr) (c0 : Nat) (l0 : List Int) (r : Bool) (w : World) (hr0 : Kd.C (Kd.int .u8) w A0 l0.length l0) (hc0 : l0.length ≤ c0) (h : laws_FnLoadings.f k l0 = some r) :
    Calls Try.prog 11 #[.slice A0 l0.length c0] w fun e w' => e = .returned (.bool r) ∧ Below w.heap.size w w' := by
  have HR0 := Aside0.mk hr0
  have HC0 := Aside0.mk hc0
  clear hr0 hc0
  have HB := Aside0.mk (Below.refl w.heap.size w)
  have H : ((laws_big.f l0).bind fun t378 => (if t378 = true then (some true) else ((spec_DrawFirstLoading.f k l0).bind fun bt379 => ((impl_FirstLoading.f k bt379.1 bt379.2).bind fun bt383 => ((spec_FirstLoading.f k bt379.1 bt379.2).bind fun bt387 => ((impl_FewestVehicles.f k bt379.1 bt379.2).bind fun bt391 => ((spec_FewestVehicles.f k bt379.1 bt379.2).bind fun bt393 => ((spec_DrawIsLoading.f k l0).bind fun bt395 => ((impl_IsLoading.f k bt395.1 bt395.2.1 bt395.2.2).bind fun bt402 => ((spec_IsLoading.f k bt395.1 bt395.2.1 bt395.2.2).bind fun bt404 => (if bt383.2 = bt387.2 then ((laws_likeInts.f k bt383.1 bt387.1).bind fun t406 => (if t406 = true then (if bt391.2 = bt393.2 then (if bt391.1 = bt393.1 then (if bt402.2 = bt404.2 then (if (bt402.1 != bt404.1) = true then (laws_FnLoadings.j0 k bt379.1 bt379.2 bt383.1 bt383.2 bt391.1 true) else (if bt391.2 = bt383.2 then ((impl_AreBoxes.f k bt379.1).bind fun t407 => (laws_FnLoadings.j0 k bt379.1 bt379.2 bt383.1 bt383.2 bt391.1 (t407 != (bt387.2 != 1)))) else (laws_FnLoadings.j0 k bt379.1 bt379.2 bt383.1 bt383.2 bt391.1 true))) else (laws_FnLoadings.j0 k bt379.1 bt379.2 bt383.1 bt383.2 bt391.1 true)) else (laws_FnLoadings.j0 k bt379.1 bt379.2 bt383.1 bt383.2 bt391.1 true)) else (laws_FnLoadings.j0 k bt379.1 bt379.2 bt383.1 bt383.2 bt391.1 true)) else (laws_FnLoadings.j0 k bt379.1 bt379.2 bt383.1 bt383.2 bt391.1 true))) else (laws_FnLoadings.j0 k bt379.1 bt379.2 bt383.1 bt383.2 bt391.1 true)))))))))))) = some r := h
  clear h
  replace H := Option.bind_eq_some_iff.mp H
  obtain ⟨t378, A20, H⟩ := H
  replace H : (if t378 = true then (some true) else ((spec_DrawFirstLoading.f k l0).bind fun bt379 => ((impl_FirstLoading.f k bt379.1 bt379.2).bind fun bt383 => ((spec_FirstLoading.f k bt379.1 bt379.2).bind fun bt387 => ((impl_FewestVehicles.f k bt379.1 bt379.2).bind fun bt391 => ((spec_FewestVehicles.f k bt379.1 bt379.2).bind fun bt393 => ((spec_DrawIsLoading.f k l0).bind fun bt395 => ((impl_IsLoading.f k bt395.1 bt395.2.1 bt395.2.2).bind fun bt402 => ((spec_IsLoading.f k bt395.1 bt395.2.1 bt395.2.2).bind fun bt404 => (if bt383.2 = bt387.2 then ((laws_likeInts.f k bt383.1 bt387.1).bind fun t406 => (if t406 = true then (if bt391.2 = bt393.2 then (if bt391.1 = bt393.1 then (if bt402.2 = bt404.2 then (if (bt402.1 != bt404.1) = true then (laws_FnLoadings.j0 k bt379.1 bt379.2 bt383.1 bt383.2 bt391.1 true) else (if bt391.2 = bt383.2 then ((impl_AreBoxes.f k bt379.1).bind fun t407 => (laws_FnLoadings.j0 k bt379.1 bt379.2 bt383.1 bt383.2 bt391.1 (t407 != (bt387.2 != 1)))) else (laws_FnLoadings.j0 k bt379.1 bt379.2 bt383.1 bt383.2 bt391.1 true))) else (laws_FnLoadings.j0 k bt379.1 bt379.2 bt383.1 bt383.2 bt391.1 true)) else (laws_FnLoadings.j0 k bt379.1 bt379.2 bt383.1 bt383.2 bt391.1 true)) else (laws_FnLoadings.j0 k bt379.1 bt379.2 bt383.1 bt383.2 bt391.1 true)) else (laws_FnLoadings.j0 k bt379.1 bt379.2 bt383.1 bt383.2 bt391.1 true))) else (laws_FnLoadings.j0 k bt379.1 bt379.2 bt383.1 bt383.2 bt391.1 true))))))))))) = some r := H
  have A2 := Aside0.mk A20
  clear A20
  by_cases c3 : t378 = true
  · subst c3
    have H1 : (some true) = some r := by rw [if_pos rfl] at H; exact H
    clear H
    have H := H1
    clear H1
    obtain rfl := Option.some.inj H
    go_enter Try.func11, Try.ntmps11
    go_wp2_with (first | ((with_reducible refine gate_callee (f := 38) rfl ?_); refine goesL_ (some 29) rfl rfl Try.func38 (by kernel_rfl) rfl #[.slice A0 l0.length c0] rfl (by (try simp only [List.map_toArray, List.map_cons, List.map_nil]); first | done | rfl | (simp only [List.length_drop, List.length_take]; rfl)) ?_; (with_reducible refine (laws_big.calls _ _ l0 true _ ?side1 ?side2 A2.out).mono ?_); (case side1 => repeat (first | exact HR0.out | (with_reducible refine Kd.C_alloc ?_ _) | (with_reducible refine Kd.C_drewN ?_ _) | (with_reducible refine Kd.C_drew ?_))); (case side2 => exact HC0.out); rintro e w' ⟨rfl, ⟨nd, rfl⟩⟩; refine ⟨_, rfl, ?_⟩))
    go_ret
    exact ⟨by first | rfl | (simp [errW_none, errW_some] <;> rfl) | (simp [*, errW_none, errW_some] <;> rfl), by repeat (first | (with_reducible first | exact HB.out | apply below_alloc | apply pw_below_drewN | apply below_drew1) | exact HB.out)⟩
  · replace c3 := Bool.eq_false_iff.mpr c3
    subst c3
    have H1 : ((spec_DrawFirstLoading.f k l0).bind fun bt379 => ((impl_FirstLoading.f k bt379.1 bt379.2).bind fun bt383 => ((spec_FirstLoading.f k bt379.1 bt379.2).bind fun bt387 => ((impl_FewestVehicles.f k bt379.1 bt379.2).bind fun bt391 => ((spec_FewestVehicles.f k bt379.1 bt379.2).bind fun bt393 => ((spec_DrawIsLoading.f k l0).bind fun bt395 => ((impl_IsLoading.f k bt395.1 bt395.2.1 bt395.2.2).bind fun bt402 => ((spec_IsLoading.f k bt395.1 bt395.2.1 bt395.2.2).bind fun bt404 => (if bt383.2 = bt387.2 then ((laws_likeInts.f k bt383.1 bt387.1).bind fun t406 => (if t406 = true then (if bt391.2 = bt393.2 then (if bt391.1 = bt393.1 then (if bt402.2 = bt404.2 then (if (bt402.1 != bt404.1) = true then (laws_FnLoadings.j0 k bt379.1 bt379.2 bt383.1 bt383.2 bt391.1 true) else (if bt391.2 = bt383.2 then ((impl_AreBoxes.f k bt379.1).bind fun t407 => (laws_FnLoadings.j0 k bt379.1 bt379.2 bt383.1 bt383.2 bt391.1 (t407 != (bt387.2 != 1)))) else (laws_FnLoadings.j0 k bt379.1 bt379.2 bt383.1 bt383.2 bt391.1 true))) else (laws_FnLoadings.j0 k bt379.1 bt379.2 bt383.1 bt383.2 bt391.1 true)) else (laws_FnLoadings.j0 k bt379.1 bt379.2 bt383.1 bt383.2 bt391.1 true)) else (laws_FnLoadings.j0 k bt379.1 bt379.2 bt383.1 bt383.2 bt391.1 true)) else (laws_FnLoadings.j0 k bt379.1 bt379.2 bt383.1 bt383.2 bt391.1 true))) else (laws_FnLoadings.j0 k bt379.1 bt379.2 bt383.1 bt383.2 bt391.1 true)))))))))) = some r := by rw [if_neg (show ¬ (false = true) by decide)] at H; exact H
    clear H
    have H := H1
    clear H1
    replace H := Option.bind_eq_some_iff.mp H
    obtain ⟨⟨t379, t380⟩, A40, H⟩ := H
    replace H : ((impl_FirstLoading.f k t379 t380).bind fun bt383 => ((spec_FirstLoading.f k t379 t380).bind fun bt387 => ((impl_FewestVehicles.f k t379 t380).bind fun bt391 => ((spec_FewestVehicles.f k t379 t380).bind fun bt393 => ((spec_DrawIsLoading.f k l0).bind fun bt395 => ((impl_IsLoading.f k bt395.1 bt395.2.1 bt395.2.2).bind fun bt402 => ((spec_IsLoading.f k bt395.1 bt395.2.1 bt395.2.2).bind fun bt404 => (if bt383.2 = bt387.2 then ((laws_likeInts.f k bt383.1 bt387.1).bind fun t406 => (if t406 = true then (if bt391.2 = bt393.2 then (if bt391.1 = bt393.1 then (if bt402.2 = bt404.2 then (if (bt402.1 != bt404.1) = true then (laws_FnLoadings.j0 k t379 t380 bt383.1 bt383.2 bt391.1 true) else (if bt391.2 = bt383.2 then ((impl_AreBoxes.f k t379).bind fun t407 => (laws_FnLoadings.j0 k t379 t380 bt383.1 bt383.2 bt391.1 (t407 != (bt387.2 != 1)))) else (laws_FnLoadings.j0 k t379 t380 bt383.1 bt383.2 bt391.1 true))) else (laws_FnLoadings.j0 k t379 t380 bt383.1 bt383.2 bt391.1 true)) else (laws_FnLoadings.j0 k t379 t380 bt383.1 bt383.2 bt391.1 true)) else (laws_FnLoadings.j0 k t379 t380 bt383.1 bt383.2 bt391.1 true)) else (laws_FnLoadings.j0 k t379 t380 bt383.1 bt383.2 bt391.1 true))) else (laws_FnLoadings.j0 k t379 t380 bt383.1 bt383.2 bt391.1 true))))))))) = some r := H
    have A4 := Aside0.mk A40
    clear A40
    replace H := Option.bind_eq_some_iff.mp H
    obtain ⟨⟨t383, t386⟩, A50, H⟩ := H
    replace H : ((spec_FirstLoading.f k t379 t380).bind fun bt387 => ((impl_FewestVehicles.f k t379 t380).bind fun bt391 => ((spec_FewestVehicles.f k t379 t380).bind fun bt393 => ((spec_DrawIsLoading.f k l0).bind fun bt395 => ((impl_IsLoading.f k bt395.1 bt395.2.1 bt395.2.2).bind fun bt402 => ((spec_IsLoading.f k bt395.1 bt395.2.1 bt395.2.2).bind fun bt404 => (if t386 = bt387.2 then ((laws_likeInts.f k t383 bt387.1).bind fun t406 => (if t406 = true then (if bt391.2 = bt393.2 then (if bt391.1 = bt393.1 then (if bt402.2 = bt404.2 then (if (bt402.1 != bt404.1) = true then (laws_FnLoadings.j0 k t379 t380 t383 t386 bt391.1 true) else (if bt391.2 = t386 then ((impl_AreBoxes.f k t379).bind fun t407 => (laws_FnLoadings.j0 k t379 t380 t383 t386 bt391.1 (t407 != (bt387.2 != 1)))) else (laws_FnLoadings.j0 k t379 t380 t383 t386 bt391.1 true))) else (laws_FnLoadings.j0 k t379 t380 t383 t386 bt391.1 true)) else (laws_FnLoadings.j0 k t379 t380 t383 t386 bt391.1 true)) else (laws_FnLoadings.j0 k t379 t380 t383 t386 bt391.1 true)) else (laws_FnLoadings.j0 k t379 t380 t383 t386 bt391.1 true))) else (laws_FnLoadings.j0 k t379 t380 t383 t386 bt391.1 true)))))))) = some r := H
    have A5 := Aside0.mk A50
    clear A50
    replace H := Option.bind_eq_some_iff.mp H
    obtain ⟨⟨t387, t390⟩, A60, H⟩ := H
    replace H : ((impl_FewestVehicles.f k t379 t380).bind fun bt391 => ((spec_FewestVehicles.f k t379 t380).bind fun bt393 => ((spec_DrawIsLoading.f k l0).bind fun bt395 => ((impl_IsLoading.f k bt395.1 bt395.2.1 bt395.2.2).bind fun bt402 => ((spec_IsLoading.f k bt395.1 bt395.2.1 bt395.2.2).bind fun bt404 => (if t386 = t390 then ((laws_likeInts.f k t383 t387).bind fun t406 => (if t406 = true then (if bt391.2 = bt393.2 then (if bt391.1 = bt393.1 then (if bt402.2 = bt404.2 then (if (bt402.1 != bt404.1) = true then (laws_FnLoadings.j0 k t379 t380 t383 t386 bt391.1 true) else (if bt391.2 = t386 then ((impl_AreBoxes.f k t379).bind fun t407 => (laws_FnLoadings.j0 k t379 t380 t383 t386 bt391.1 (t407 != (t390 != 1)))) else (laws_FnLoadings.j0 k t379 t380 t383 t386 bt391.1 true))) else (laws_FnLoadings.j0 k t379 t380 t383 t386 bt391.1 true)) else (laws_FnLoadings.j0 k t379 t380 t383 t386 bt391.1 true)) else (laws_FnLoadings.j0 k t379 t380 t383 t386 bt391.1 true)) else (laws_FnLoadings.j0 k t379 t380 t383 t386 bt391.1 true))) else (laws_FnLoadings.j0 k t379 t380 t383 t386 bt391.1 true))))))) = some r := H
    have A6 := Aside0.mk A60
    clear A60
    replace H := Option.bind_eq_some_iff.mp H
    obtain ⟨⟨t391, t392⟩, A70, H⟩ := H
    replace H : ((spec_FewestVehicles.f k t379 t380).bind fun bt393 => ((spec_DrawIsLoading.f k l0).bind fun bt395 => ((impl_IsLoading.f k bt395.1 bt395.2.1 bt395.2.2).bind fun bt402 => ((spec_IsLoading.f k bt395.1 bt395.2.1 bt395.2.2).bind fun bt404 => (if t386 = t390 then ((laws_likeInts.f k t383 t387).bind fun t406 => (if t406 = true then (if t392 = bt393.2 then (if t391 = bt393.1 then (if bt402.2 = bt404.2 then (if (bt402.1 != bt404.1) = true then (laws_FnLoadings.j0 k t379 t380 t383 t386 t391 true) else (if t392 = t386 then ((impl_AreBoxes.f k t379).bind fun t407 => (laws_FnLoadings.j0 k t379 t380 t383 t386 t391 (t407 != (t390 != 1)))) else (laws_FnLoadings.j0 k t379 t380 t383 t386 t391 true))) else (laws_FnLoadings.j0 k t379 t380 t383 t386 t391 true)) else (laws_FnLoadings.j0 k t379 t380 t383 t386 t391 true)) else (laws_FnLoadings.j0 k t379 t380 t383 t386 t391 true)) else (laws_FnLoadings.j0 k t379 t380 t383 t386 t391 true))) else (laws_FnLoadings.j0 k t379 t380 t383 t386 t391 true)))))) = some r := H
    have A7 := Aside0.mk A70
    clear A70
    replace H := Option.bind_eq_some_iff.mp H
    obtain ⟨⟨t393, t394⟩, A80, H⟩ := H
    replace H : ((spec_DrawIsLoading.f k l0).bind fun bt395 => ((impl_IsLoading.f k bt395.1 bt395.2.1 bt395.2.2).bind fun bt402 => ((spec_IsLoading.f k bt395.1 bt395.2.1 bt395.2.2).bind fun bt404 => (if t386 = t390 then ((laws_likeInts.f k t383 t387).bind fun t406 => (if t406 = true then (if t392 = t394 then (if t391 = t393 then (if bt402.2 = bt404.2 then (if (bt402.1 != bt404.1) = true then (laws_FnLoadings.j0 k t379 t380 t383 t386 t391 true) else (if t392 = t386 then ((impl_AreBoxes.f k t379).bind fun t407 => (laws_FnLoadings.j0 k t379 t380 t383 t386 t391 (t407 != (t390 != 1)))) else (laws_FnLoadings.j0 k t379 t380 t383 t386 t391 true))) else (laws_FnLoadings.j0 k t379 t380 t383 t386 t391 true)) else (laws_FnLoadings.j0 k t379 t380 t383 t386 t391 true)) else (laws_FnLoadings.j0 k t379 t380 t383 t386 t391 true)) else (laws_FnLoadings.j0 k t379 t380 t383 t386 t391 true))) else (laws_FnLoadings.j0 k t379 t380 t383 t386 t391 true))))) = some r := H
    have A8 := Aside0.mk A80
    clear A80
    replace H := Option.bind_eq_some_iff.mp H
    obtain ⟨⟨t395, t398, t399⟩, A90, H⟩ := H
    replace H : ((impl_IsLoading.f k t395 t398 t399).bind fun bt402 => ((spec_IsLoading.f k t395 t398 t399).bind fun bt404 => (if t386 = t390 then ((laws_likeInts.f k t383 t387).bind fun t406 => (if t406 = true then (if t392 = t394 then (if t391 = t393 then (if bt402.2 = bt404.2 then (if (bt402.1 != bt404.1) = true then (laws_FnLoadings.j0 k t379 t380 t383 t386 t391 true) else (if t392 = t386 then ((impl_AreBoxes.f k t379).bind fun t407 => (laws_FnLoadings.j0 k t379 t380 t383 t386 t391 (t407 != (t390 != 1)))) else (laws_FnLoadings.j0 k t379 t380 t383 t386 t391 true))) else (laws_FnLoadings.j0 k t379 t380 t383 t386 t391 true)) else (laws_FnLoadings.j0 k t379 t380 t383 t386 t391 true)) else (laws_FnLoadings.j0 k t379 t380 t383 t386 t391 true)) else (laws_FnLoadings.j0 k t379 t380 t383 t386 t391 true))) else (laws_FnLoadings.j0 k t379 t380 t383 t386 t391 true)))) = some r := H
    have A9 := Aside0.mk A90
    clear A90
    replace H := Option.bind_eq_some_iff.mp H
    obtain ⟨⟨t402, t403⟩, A100, H⟩ := H
    replace H : ((spec_IsLoading.f k t395 t398 t399).bind fun bt404 => (if t386 = t390 then ((laws_likeInts.f k t383 t387).bind fun t406 => (if t406 = true then (if t392 = t394 then (if t391 = t393 then (if t403 = bt404.2 then (if (t402 != bt404.1) = true then (laws_FnLoadings.j0 k t379 t380 t383 t386 t391 true) else (if t392 = t386 then ((impl_AreBoxes.f k t379).bind fun t407 => (laws_FnLoadings.j0 k t379 t380 t383 t386 t391 (t407 != (t390 != 1)))) else (laws_FnLoadings.j0 k t379 t380 t383 t386 t391 true))) else (laws_FnLoadings.j0 k t379 t380 t383 t386 t391 true)) else (laws_FnLoadings.j0 k t379 t380 t383 t386 t391 true)) else (laws_FnLoadings.j0 k t379 t380 t383 t386 t391 true)) else (laws_FnLoadings.j0 k t379 t380 t383 t386 t391 true))) else (laws_FnLoadings.j0 k t379 t380 t383 t386 t391 true))) = some r := H
    have A10 := Aside0.mk A100
    clear A100
    replace H := Option.bind_eq_some_iff.mp H
    obtain ⟨⟨t404, t405⟩, A110, H⟩ := H
    replace H : (if t386 = t390 then ((laws_likeInts.f k t383 t387).bind fun t406 => (if t406 = true then (if t392 = t394 then (if t391 = t393 then (if t403 = t405 then (if (t402 != t404) = true then (laws_FnLoadings.j0 k t379 t380 t383 t386 t391 true) else (if t392 = t386 then ((impl_AreBoxes.f k t379).bind fun t407 => (laws_FnLoadings.j0 k t379 t380 t383 t386 t391 (t407 != (t390 != 1)))) else (laws_FnLoadings.j0 k t379 t380 t383 t386 t391 true))) else (laws_FnLoadings.j0 k t379 t380 t383 t386 t391 true)) else (laws_FnLoadings.j0 k t379 t380 t383 t386 t391 true)) else (laws_FnLoadings.j0 k t379 t380 t383 t386 t391 true)) else (laws_FnLoadings.j0 k t379 t380 t383 t386 t391 true))) else (laws_FnLoadings.j0 k t379 t380 t383 t386 t391 true)) = some r := H
    have A11 := Aside0.mk A110
    clear A110
    have HC12 := Aside0.mk H
    clear H
    go_enter Try.func11, Try.ntmps11
    go_upto_region 11 with (first | ((with_reducible refine gate_callee (f := 38) rfl ?_); refine goesL_ (some 29) rfl rfl Try.func38 (by kernel_rfl) rfl #[.slice A0 l0.length c0] rfl (by (try simp only [List.map_toArray, List.map_cons, List.map_nil]); first | done | rfl | (simp only [List.length_drop, List.length_take]; rfl)) ?_; (with_reducible refine (laws_big.calls _ _ l0 false _ ?side1 ?side2 A2.out).mono ?_); (case side1 => repeat (first | exact HR0.out | (with_reducible refine Kd.C_alloc ?_ _) | (with_reducible refine Kd.C_drewN ?_ _) | (with_reducible refine Kd.C_drew ?_))); (case side2 => exact HC0.out); rintro e w' ⟨rfl, ⟨nd, rfl⟩⟩; refine ⟨_, rfl, ?_⟩) | ((with_reducible refine gate_callee (f := 39) rfl ?_); refine goesL_ (some 32) rfl rfl Try.func39 (by kernel_rfl) rfl #[.slice A0 l0.length c0] rfl (by (try simp only [List.map_toArray, List.map_cons, List.map_nil]); first | done | rfl | (simp only [List.length_drop, List.length_take]; rfl)) ?_; (with_reducible refine (spec_DrawFirstLoading.calls k _ _ l0 t379 t380 _ ?side1 ?side2 A4.out).mono ?_); (case side1 => repeat (first | exact HR0.out | (with_reducible refine Kd.C_alloc ?_ _) | (with_reducible refine Kd.C_drewN ?_ _) | (with_reducible refine Kd.C_drew ?_))); (case side2 => exact HC0.out); rintro e w13 ⟨v381, rfl, ho0, hb⟩; refine ⟨_, rfl, ?_⟩; have n0_ := Aside0.mk (Kd.R_lower ho0 (below_size (by repeat (first | (with_reducible first | exact HB.out | apply below_alloc | apply pw_below_drewN | apply below_drew1) | exact HB.out)))); have n1_ := Aside0.mk (below_step (by repeat (first | (with_reducible first | exact HB.out | apply below_alloc | apply pw_below_drewN | apply below_drew1) | exact HB.out)) hb); clear HB; have HO382 := n0_; have HB := n1_; clear n0_ n1_; (try clear hb); (try clear hb2); (try clear hk); (try clear hi); (try clear ho0); obtain ⟨Ao14, co14, eo14⟩ := Kd.R_slice HO382.out; subst eo14) | ((with_reducible refine gate_callee (f := 33) rfl ?_); refine goesL_ (some 38) rfl rfl Try.func33 (by kernel_rfl) rfl #[.slice Ao14 t379.length co14, .int .i64 t380] rfl (by (try simp only [List.map_toArray, List.map_cons, List.map_nil]); first | done | rfl | (simp only [List.length_drop, List.length_take]; rfl)) ?_; (with_reducible refine (impl_FirstLoading.calls k _ _ t379 t380 t383 t386 _ ?side1 ?side2 A5.out).mono ?_); (case side1 => repeat (first | exact (Kd.R_reads' HO382.out).2.2 | (with_reducible refine Kd.C_alloc ?_ _) | (with_reducible refine Kd.C_drewN ?_ _) | (with_reducible refine Kd.C_drew ?_))); (case side2 => exact (Kd.R_reads' HO382.out).2.1); rintro e w15 ⟨v384, rfl, ho0, hb⟩; refine ⟨_, rfl, ?_⟩; have n0_ := Aside0.mk (Kd.R_below (by (with_reducible repeat (first | apply Kd.R_alloc | apply Kd.R_drewN | apply Kd.R_drew)); exact HO382.out) hb); have n1_ := Aside0.mk (Kd.V_lower (Kd.V_mono (ok' := fun k_ => some k_ ≠ (.slice Ao14 t379.length co14 : Value).ownBlock) ho0 (fun k_ hk_ => (Kd.fresh' (Kd.R_lt (by (with_reducible repeat (first | apply Kd.R_alloc | apply Kd.R_drewN | apply Kd.R_drew)); exact HO382.out)) k_ hk_))) (below_size (by repeat (first | (with_reducible first | exact HB.out | apply below_alloc | apply pw_below_drewN | apply below_drew1) | exact HB.out)))); have n2_ := Aside0.mk (below_step (by repeat (first | (with_reducible first | exact HB.out | apply below_alloc | apply pw_below_drewN | apply below_drew1) | exact HB.out)) hb); clear HO382; clear HB; have HO382 := n0_; have HO385 := n1_; have HB := n2_; clear n0_ n1_ n2_; (try clear hb); (try clear hb2); (try clear hk); (try clear hi); (try clear ho0)) | ((with_reducible refine gate_callee (f := 32) rfl ?_); refine goesL_ (some 44) rfl rfl Try.func32 (by kernel_rfl) rfl #[.slice Ao14 t379.length co14, .int .i64 t380] rfl (by (try simp only [List.map_toArray, List.map_cons, List.map_nil]); first | done | rfl | (simp only [List.length_drop, List.length_take]; rfl)) ?_; (with_reducible refine (spec_FirstLoading.calls k _ _ t379 t380 t387 t390 _ ?side1 ?side2 A6.out).mono ?_); (case side1 => repeat (first | exact (Kd.R_reads' HO382.out).2.2 | (with_reducible refine Kd.C_alloc ?_ _) | (with_reducible refine Kd.C_drewN ?_ _) | (with_reducible refine Kd.C_drew ?_))); (case side2 => exact (Kd.R_reads' HO382.out).2.1); rintro e w16 ⟨v388, rfl, ho0, hb⟩; refine ⟨_, rfl, ?_⟩; have n0_ := Aside0.mk (Kd.R_below (by (with_reducible repeat (first | apply Kd.R_alloc | apply Kd.R_drewN | apply Kd.R_drew)); exact HO382.out) hb); have n1_ := Aside0.mk (Kd.V_below (by (with_reducible repeat (first | apply Kd.V_alloc | apply Kd.V_drewN | apply Kd.V_drew)); exact HO385.out) hb); have n2_ := Aside0.mk (Kd.V_lower (Kd.V_mono (ok' := fun k_ => some k_ ≠ (.slice Ao14 t379.length co14 : Value).ownBlock) ho0 (fun k_ hk_ => (Kd.fresh' (Kd.R_lt (by (with_reducible repeat (first | apply Kd.R_alloc | apply Kd.R_drewN | apply Kd.R_drew)); exact HO382.out)) k_ hk_))) (below_size (by repeat (first | (with_reducible first | exact HB.out | apply below_alloc | apply pw_below_drewN | apply below_drew1) | exact HB.out)))); have n3_ := Aside0.mk (below_step (by repeat (first | (with_reducible first | exact HB.out | apply below_alloc | apply pw_below_drewN | apply below_drew1) | exact HB.out)) hb); clear HO382; clear HO385; clear HB; have HO382 := n0_; have HO385 := n1_; have HO389 := n2_; have HB := n3_; clear n0_ n1_ n2_ n3_; (try clear hb); (try clear hb2); (try clear hk); (try clear hi); (try clear ho0)) | ((with_reducible refine gate_callee (f := 21) rfl ?_); refine goesL_ (some 50) rfl rfl Try.func21 (by kernel_rfl) rfl #[.slice Ao14 t379.length co14, .int .i64 t380] rfl (by (try simp only [List.map_toArray, List.map_cons, List.map_nil]); first | done | rfl | (simp only [List.length_drop, List.length_take]; rfl)) ?_; (with_reducible refine (impl_FewestVehicles.calls k _ _ t379 t380 t391 t392 _ ?side1 ?side2 A7.out).mono ?_); (case side1 => repeat (first | exact (Kd.R_reads' HO382.out).2.2 | (with_reducible refine Kd.C_alloc ?_ _) | (with_reducible refine Kd.C_drewN ?_ _) | (with_reducible refine Kd.C_drew ?_))); (case side2 => exact (Kd.R_reads' HO382.out).2.1); rintro e w17 ⟨rfl, hb⟩; refine ⟨_, rfl, ?_⟩; have n0_ := Aside0.mk (Kd.R_below (by (with_reducible repeat (first | apply Kd.R_alloc | apply Kd.R_drewN | apply Kd.R_drew)); exact HO382.out) hb); have n1_ := Aside0.mk (Kd.V_below (by (with_reducible repeat (first | apply Kd.V_alloc | apply Kd.V_drewN | apply Kd.V_drew)); exact HO385.out) hb); have n2_ := Aside0.mk (Kd.V_below (by (with_reducible repeat (first | apply Kd.V_alloc | apply Kd.V_drewN | apply Kd.V_drew)); exact HO389.out) hb); have n3_ := Aside0.mk (below_step (by repeat (first | (with_reducible first | exact HB.out | apply below_alloc | apply pw_below_drewN | apply below_drew1) | exact HB.out)) hb); clear HO382; clear HO385; clear HO389; clear HB; have HO382 := n0_; have HO385 := n1_; have HO389 := n2_; have HB := n3_; clear n0_ n1_ n2_ n3_; (try clear hb); (try clear hb2); (try clear hk); (try clear hi)) | ((with_reducible refine gate_callee (f := 20) rfl ?_); refine goesL_ (some 56) rfl rfl Try.func20 (by kernel_rfl) rfl #[.slice Ao14 t379.length co14, .int .i64 t380] rfl (by (try simp only [List.map_toArray, List.map_cons, List.map_nil]); first | done | rfl | (simp only [List.length_drop, List.length_take]; rfl)) ?_; (with_reducible refine (spec_FewestVehicles.calls k _ _ t379 t380 t393 t394 _ ?side1 ?side2 A8.out).mono ?_); (case side1 => repeat (first | exact (Kd.R_reads' HO382.out).2.2 | (with_reducible refine Kd.C_alloc ?_ _) | (with_reducible refine Kd.C_drewN ?_ _) | (with_reducible refine Kd.C_drew ?_))); (case side2 => exact (Kd.R_reads' HO382.out).2.1); rintro e w18 ⟨rfl, hb⟩; refine ⟨_, rfl, ?_⟩; have n0_ := Aside0.mk (Kd.R_below (by (with_reducible repeat (first | apply Kd.R_alloc | apply Kd.R_drewN | apply Kd.R_drew)); exact HO382.out) hb); have n1_ := Aside0.mk (Kd.V_below (by (with_reducible repeat (first | apply Kd.V_alloc | apply Kd.V_drewN | apply Kd.V_drew)); exact HO385.out) hb); have n2_ := Aside0.mk (Kd.V_below (by (with_reducible repeat (first | apply Kd.V_alloc | apply Kd.V_drewN | apply Kd.V_drew)); exact HO389.out) hb); have n3_ := Aside0.mk (below_step (by repeat (first | (with_reducible first | exact HB.out | apply below_alloc | apply pw_below_drewN | apply below_drew1) | exact HB.out)) hb); clear HO382; clear HO385; clear HO389; clear HB; have HO382 := n0_; have HO385 := n1_; have HO389 := n2_; have HB := n3_; clear n0_ n1_ n2_ n3_; (try clear hb); (try clear hb2); (try clear hk); (try clear hi)) | ((with_reducible refine gate_callee (f := 40) rfl ?_); refine goesL_ (some 61) rfl rfl Try.func40 (by kernel_rfl) rfl #[.slice A0 l0.length c0] rfl (by (try simp only [List.map_toArray, List.map_cons, List.map_nil]); first | done | rfl | (simp only [List.length_drop, List.length_take]; rfl)) ?_; (with_reducible refine (spec_DrawIsLoading.calls k _ _ l0 t395 t398 t399 _ ?side1 ?side2 A9.out).mono ?_); (case side1 => repeat (first | exact HR0.out | exact (Kd.C_below HR0.out HB.out) | (with_reducible refine Kd.C_alloc ?_ _) | (with_reducible refine Kd.C_drewN ?_ _) | (with_reducible refine Kd.C_drew ?_))); (case side2 => exact HC0.out); rintro e w19 ⟨v396, v400, rfl, ho0, ho1, hb⟩; refine ⟨_, rfl, ?_⟩; have n0_ := Aside0.mk (Kd.R_elder' (by (with_reducible repeat (first | apply Kd.R_alloc | apply Kd.R_drewN | apply Kd.R_drew)); exact HO382.out) (Kd.R_base ho0) hb); have n1_ := Aside0.mk (Kd.V_elder' (by (with_reducible repeat (first | apply Kd.V_alloc | apply Kd.V_drewN | apply Kd.V_drew)); exact HO385.out) (Kd.R_base ho0) hb); have n2_ := Aside0.mk (Kd.V_elder' (by (with_reducible repeat (first | apply Kd.V_alloc | apply Kd.V_drewN | apply Kd.V_drew)); exact HO389.out) (Kd.R_base ho0) hb); have n3_ := Aside0.mk (Kd.R_lower (Kd.R_new' (Kd.R_mono (ok' := fun k_ => True) ho0 (fun _ hk_ => trivial)) (Kd.R_lt (by (with_reducible repeat (first | apply Kd.R_alloc | apply Kd.R_drewN | apply Kd.R_drew)); exact HO382.out))) (below_size (by repeat (first | (with_reducible first | exact HB.out | apply below_alloc | apply pw_below_drewN | apply below_drew1) | exact HB.out)))); have n4_ := Aside0.mk (Kd.V_lower (Kd.V_mono (ok' := fun k_ => some k_ ≠ (v396 : Value).ownBlock ∧ some k_ ≠ (.slice Ao14 t379.length co14 : Value).ownBlock) ho1 (fun k_ hk_ => ⟨hk_.2, (Kd.fresh' (Kd.R_lt (by (with_reducible repeat (first | apply Kd.R_alloc | apply Kd.R_drewN | apply Kd.R_drew)); exact HO382.out)) k_ hk_.1)⟩)) (below_size (by repeat (first | (with_reducible first | exact HB.out | apply below_alloc | apply pw_below_drewN | apply below_drew1) | exact HB.out)))); have n5_ := Aside0.mk (below_step (by repeat (first | (with_reducible first | exact HB.out | apply below_alloc | apply pw_below_drewN | apply below_drew1) | exact HB.out)) hb); clear HO382; clear HO385; clear HO389; clear HB; have HO382 := n0_; have HO385 := n1_; have HO389 := n2_; have HO397 := n3_; have HO401 := n4_; have HB := n5_; clear n0_ n1_ n2_ n3_ n4_ n5_; (try clear hb); (try clear hb2); (try clear hk); (try clear hi); (try clear ho0); (try clear ho1); obtain ⟨Ao20, co20, eo20⟩ := Kd.R_slice HO397.out; subst eo20; obtain ⟨Ao21, co21, eo21⟩ := Kd.V_slice HO401.out; subst eo21) | ((with_reducible refine gate_callee (f := 24) rfl ?_); refine goesL_ (some 69) rfl rfl Try.func24 (by kernel_rfl) rfl #[.slice Ao20 t395.length co20, .int .i64 t398, .slice Ao21 t399.length co21] rfl (by (try simp only [List.map_toArray, List.map_cons, List.map_nil]); first | done | rfl | (simp only [List.length_drop, List.length_take]; rfl)) ?_; (with_reducible refine (impl_IsLoading.calls k _ _ t395 t398 _ _ t399 t402 t403 _ ?side1 ?side2 ?side3 ?side4 A10.out).mono ?_); (case side1 => repeat (first | exact (Kd.R_reads' HO397.out).2.2 | (with_reducible refine Kd.C_alloc ?_ _) | (with_reducible refine Kd.C_drewN ?_ _) | (with_reducible refine Kd.C_drew ?_))); (case side2 => exact (Kd.R_reads' HO397.out).2.1); (case side3 => repeat (first | exact (Kd.V_reads' HO401.out).2.2 | (with_reducible refine Kd.C_alloc ?_ _) | (with_reducible refine Kd.C_drewN ?_ _) | (with_reducible refine Kd.C_drew ?_))); (case side4 => exact (Kd.V_reads' HO401.out).2.1); rintro e w22 ⟨rfl, hb⟩; refine ⟨_, rfl, ?_⟩; have n0_ := Aside0.mk (Kd.R_below (by (with_reducible repeat (first | apply Kd.R_alloc | apply Kd.R_drewN | apply Kd.R_drew)); exact HO382.out) hb); have n1_ := Aside0.mk (Kd.V_below (by (with_reducible repeat (first | apply Kd.V_alloc | apply Kd.V_drewN | apply Kd.V_drew)); exact HO385.out) hb); have n2_ := Aside0.mk (Kd.V_below (by (with_reducible repeat (first | apply Kd.V_alloc | apply Kd.V_drewN | apply Kd.V_drew)); exact HO389.out) hb); have n3_ := Aside0.mk (Kd.R_below (by (with_reducible repeat (first | apply Kd.R_alloc | apply Kd.R_drewN | apply Kd.R_drew)); exact HO397.out) hb); have n4_ := Aside0.mk (Kd.V_below (by (with_reducible repeat (first | apply Kd.V_alloc | apply Kd.V_drewN | apply Kd.V_drew)); exact HO401.out) hb); have n5_ := Aside0.mk (below_step (by repeat (first | (with_reducible first | exact HB.out | apply below_alloc | apply pw_below_drewN | apply below_drew1) | exact HB.out)) hb); clear HO382; clear HO385; clear HO389; clear HO397; clear HO401; clear HB; have HO382 := n0_; have HO385 := n1_; have HO389 := n2_; have HO397 := n3_; have HO401 := n4_; have HB := n5_; clear n0_ n1_ n2_ n3_ n4_ n5_; (try clear hb); (try clear hb2); (try clear hk); (try clear hi)) | ((with_reducible refine gate_callee (f := 22) rfl ?_); refine goesL_ (some 76) rfl rfl Try.func22 (by kernel_rfl) rfl #[.slice Ao20 t395.length co20, .int .i64 t398, .slice Ao21 t399.length co21] rfl (by (try simp only [List.map_toArray, List.map_cons, List.map_nil]); first | done | rfl | (simp only [List.length_drop, List.length_take]; rfl)) ?_; (with_reducible refine (spec_IsLoading.calls k _ _ t395 t398 _ _ t399 t404 t405 _ ?side1 ?side2 ?side3 ?side4 A11.out).mono ?_); (case side1 => repeat (first | exact (Kd.R_reads' HO397.out).2.2 | (with_reducible refine Kd.C_alloc ?_ _) | (with_reducible refine Kd.C_drewN ?_ _) | (with_reducible refine Kd.C_drew ?_))); (case side2 => exact (Kd.R_reads' HO397.out).2.1); (case side3 => repeat (first | exact (Kd.V_reads' HO401.out).2.2 | (with_reducible refine Kd.C_alloc ?_ _) | (with_reducible refine Kd.C_drewN ?_ _) | (with_reducible refine Kd.C_drew ?_))); (case side4 => exact (Kd.V_reads' HO401.out).2.1); rintro e w23 ⟨rfl, hb⟩; refine ⟨_, rfl, ?_⟩; have n0_ := Aside0.mk (Kd.R_below (by (with_reducible repeat (first | apply Kd.R_alloc | apply Kd.R_drewN | apply Kd.R_drew)); exact HO382.out) hb); have n1_ := Aside0.mk (Kd.V_below (by (with_reducible repeat (first | apply Kd.V_alloc | apply Kd.V_drewN | apply Kd.V_drew)); exact HO385.out) hb); have n2_ := Aside0.mk (Kd.V_below (by (with_reducible repeat (first | apply Kd.V_alloc | apply Kd.V_drewN | apply Kd.V_drew)); exact HO389.out) hb); have n3_ := Aside0.mk (Kd.R_below (by (with_reducible repeat (first | apply Kd.R_alloc | apply Kd.R_drewN | apply Kd.R_drew)); exact HO397.out) hb); have n4_ := Aside0.mk (Kd.V_below (by (with_reducible repeat (first | apply Kd.V_alloc | apply Kd.V_drewN | apply Kd.V_drew)); exact HO401.out) hb); have n5_ := Aside0.mk (below_step (by repeat (first | (with_reducible first | exact HB.out | apply below_alloc | apply pw_below_drewN | apply below_drew1) | exact HB.out)) hb); clear HO382; clear HO385; clear HO389; clear HO397; clear HO401; clear HB; have HO382 := n0_; have HO385 := n1_; have HO389 := n2_; have HO397 := n3_; have HO401 := n4_; have HB := n5_; clear n0_ n1_ n2_ n3_ n4_ n5_; (try clear hb); (try clear hb2); (try clear hk); (try clear hi)))
    (try simp only [Act.put, List.setIfInBounds_toArray, List.set_cons_zero, List.set_cons_succ])
    go_cut [119] (fun v119 wc => ∃ (kq : Nat) (x119_11 : Bool), v119 = .bool x119_11 ∧ Aside0 (laws_FnLoadings.j0 kq t379 t380 t383 t386 t391 x119_11 = some r) ∧ Aside0 (kq ≤ k) ∧ Aside0 (Kd.R k55 55 wc w.heap.size (fun _ => True) (.slice Ao14 t379.length co14) t379) ∧ Aside0 (Kd.V (Kd.int .i64) 2 wc w.heap.size (fun k_ => some k_ ≠ ((.slice Ao14 t379.length co14) : Value).ownBlock) v384 t383) ∧ Aside0 (Below w.heap.size w wc))
    case first =>
      have H := HC12.out
      clear HC12
      by_cases c24 : t386 = t390
      · rw [if_pos c24] at H
        have c24b0 : (t386 == t390) = true := beq_iff_eq.mpr c24
        have c24b1 : (t386 != t390) = false := bne_eq_false_iff_eq.mpr c24
        clear c24
        (first | rw [c24b0] | (simp only [i64_w, i32_w]; rw [c24b0]) | skip)
        replace H := Option.bind_eq_some_iff.mp H
        obtain ⟨t406, A250, H⟩ := H
        replace H : (if t406 = true then (if t392 = t394 then (if t391 = t393 then (if t403 = t405 then (if (t402 != t404) = true then (laws_FnLoadings.j0 k t379 t380 t383 t386 t391 true) else (if t392 = t386 then ((impl_AreBoxes.f k t379).bind fun t407 => (laws_FnLoadings.j0 k t379 t380 t383 t386 t391 (t407 != (t390 != 1)))) else (laws_FnLoadings.j0 k t379 t380 t383 t386 t391 true))) else (laws_FnLoadings.j0 k t379 t380 t383 t386 t391 true)) else (laws_FnLoadings.j0 k t379 t380 t383 t386 t391 true)) else (laws_FnLoadings.j0 k t379 t380 t383 t386 t391 true)) else (laws_FnLoadings.j0 k t379 t380 t383 t386 t391 true)) = some r := H
        have A25 := Aside0.mk A250
        clear A250
        by_cases c26 : t406 = true
        · subst c26
          have H1 : (if t392 = t394 then (if t391 = t393 then (if t403 = t405 then (if (t402 != t404) = true then (laws_FnLoadings.j0 k t379 t380 t383 t386 t391 true) else (if t392 = t386 then ((impl_AreBoxes.f k t379).bind fun t407 => (laws_FnLoadings.j0 k t379 t380 t383 t386 t391 (t407 != (t390 != 1)))) else (laws_FnLoadings.j0 k t379 t380 t383 t386 t391 true))) else (laws_FnLoadings.j0 k t379 t380 t383 t386 t391 true)) else (laws_FnLoadings.j0 k t379 t380 t383 t386 t391 true)) else (laws_FnLoadings.j0 k t379 t380 t383 t386 t391 true)) = some r := by rw [if_pos rfl] at H; exact H
          clear H
          have H := H1
          clear H1
          by_cases c27 : t392 = t394
          · rw [if_pos c27] at H
            have c27b0 : (t392 == t394) = true := beq_iff_eq.mpr c27
            have c27b1 : (t392 != t394) = false := bne_eq_false_iff_eq.mpr c27
            clear c27
            by_cases c28 : t391 = t393
            · rw [if_pos c28] at H
              have c28b0 : (t391 == t393) = true := beq_iff_eq.mpr c28
              have c28b1 : (t391 != t393) = false := bne_eq_false_iff_eq.mpr c28
              clear c28
              by_cases c29 : t403 = t405
              · rw [if_pos c29] at H
                have c29b0 : (t403 == t405) = true := beq_iff_eq.mpr c29
                have c29b1 : (t403 != t405) = false := bne_eq_false_iff_eq.mpr c29
                clear c29
                by_cases c30 : (t402 != t404) = true
                · rw [if_pos c30] at H
                  have c30b0 : (t402 != t404) = true := c30
                  (try (have c30b1 : decide (t402 = t404) = false := by simpa using c30))
                  (try (have c30b2 : (t402 == t404) = false := by simpa using c30))
                  (try (have c30b3 : ¬ (t402 = t404) := by simpa using c30))
                  clear c30
                  have H' := Aside0.mk H
                  clear H
                  obtain ⟨Ao31, co31, eo31⟩ := Kd.V_slice HO385.out
                  subst eo31
                  obtain ⟨Ao32, co32, eo32⟩ := Kd.V_slice HO389.out
                  subst eo32
                  go_wp2_with (first | (go_at_call 41; (with_reducible refine (laws_likeInts.calls k _ _ t383 _ _ t387 true _ ?side1 ?side2 ?side3 ?side4 A25.out).mono ?_); (case side1 => repeat (first | exact (Kd.V_reads' HO385.out).2.2 | (with_reducible refine Kd.C_alloc ?_ _) | (with_reducible refine Kd.C_drewN ?_ _) | (with_reducible refine Kd.C_drew ?_))); (case side2 => exact (Kd.V_reads' HO385.out).2.1); (case side3 => repeat (first | exact (Kd.V_reads' HO389.out).2.2 | (with_reducible refine Kd.C_alloc ?_ _) | (with_reducible refine Kd.C_drewN ?_ _) | (with_reducible refine Kd.C_drew ?_))); (case side4 => exact (Kd.V_reads' HO389.out).2.1); rintro e w' ⟨rfl, ⟨nd, rfl⟩⟩))
                  go_meet
                  case rel => exact ⟨_, (true), (by first | rfl | (simp; done) | (simp [*]; done)), H', ⟨by first | omega | exact Nat.le_refl _⟩, ⟨by (with_reducible repeat (first | apply Kd.R_alloc | apply Kd.R_drewN | apply Kd.R_drew)); exact Kd.R_mono HO382.out (fun _ hk => trivial)⟩, ⟨by (with_reducible repeat (first | apply Kd.V_alloc | apply Kd.V_drewN | apply Kd.V_drew)); exact Kd.V_mono HO385.out (fun _ hk => hk.1)⟩, ⟨by repeat (first | (with_reducible first | exact HB.out | apply below_alloc | apply pw_below_drewN | apply below_drew1) | exact HB.out)⟩⟩
                · rw [if_neg c30] at H
                  have c30b0 : (t402 != t404) = false := by simpa using c30
                  (try (have c30b1 : decide (t402 = t404) = true := by simpa using c30))
                  (try (have c30b2 : (t402 == t404) = true := by simpa using c30))
                  clear c30
                  by_cases c33 : t392 = t386
                  · rw [if_pos c33] at H
                    have c33b0 : (t392 == t386) = true := beq_iff_eq.mpr c33
                    have c33b1 : (t392 != t386) = false := bne_eq_false_iff_eq.mpr c33
                    clear c33
                    replace H := Option.bind_eq_some_iff.mp H
                    obtain ⟨t407, A340, H⟩ := H
                    replace H : (laws_FnLoadings.j0 k t379 t380 t383 t386 t391 (t407 != (t390 != 1))) = some r := H
                    have A34 := Aside0.mk A340
                    clear A340
                    have H' := Aside0.mk H
                    clear H
                    obtain ⟨Ao35, co35, eo35⟩ := Kd.V_slice HO385.out
                    subst eo35
                    obtain ⟨Ao36, co36, eo36⟩ := Kd.V_slice HO389.out
                    subst eo36
                    go_wp2_with (first | (go_at_call 41; (with_reducible refine (laws_likeInts.calls k _ _ t383 _ _ t387 true _ ?side1 ?side2 ?side3 ?side4 A25.out).mono ?_); (case side1 => repeat (first | exact (Kd.V_reads' HO385.out).2.2 | (with_reducible refine Kd.C_alloc ?_ _) | (with_reducible refine Kd.C_drewN ?_ _) | (with_reducible refine Kd.C_drew ?_))); (case side2 => exact (Kd.V_reads' HO385.out).2.1); (case side3 => repeat (first | exact (Kd.V_reads' HO389.out).2.2 | (with_reducible refine Kd.C_alloc ?_ _) | (with_reducible refine Kd.C_drewN ?_ _) | (with_reducible refine Kd.C_drew ?_))); (case side4 => exact (Kd.V_reads' HO389.out).2.1); rintro e w' ⟨rfl, ⟨nd, rfl⟩⟩) | (go_at_call 16; (with_reducible refine (impl_AreBoxes.calls k _ _ t379 t407 _ ?side1 ?side2 A34.out).mono ?_); (case side1 => repeat (first | exact (Kd.R_reads' HO382.out).2.2 | (with_reducible refine Kd.C_alloc ?_ _) | (with_reducible refine Kd.C_drewN ?_ _) | (with_reducible refine Kd.C_drew ?_))); (case side2 => exact (Kd.R_reads' HO382.out).2.1); rintro e w37 ⟨rfl, hb⟩; have n0_ := Aside0.mk (Kd.R_below (by (with_reducible repeat (first | apply Kd.R_alloc | apply Kd.R_drewN | apply Kd.R_drew)); exact HO382.out) hb); have n1_ := Aside0.mk (Kd.V_below (by (with_reducible repeat (first | apply Kd.V_alloc | apply Kd.V_drewN | apply Kd.V_drew)); exact HO385.out) hb); have n2_ := Aside0.mk (Kd.V_below (by (with_reducible repeat (first | apply Kd.V_alloc | apply Kd.V_drewN | apply Kd.V_drew)); exact HO389.out) hb); have n3_ := Aside0.mk (Kd.R_below (by (with_reducible repeat (first | apply Kd.R_alloc | apply Kd.R_drewN | apply Kd.R_drew)); exact HO397.out) hb); have n4_ := Aside0.mk (Kd.V_below (by (with_reducible repeat (first | apply Kd.V_alloc | apply Kd.V_drewN | apply Kd.V_drew)); exact HO401.out) hb); have n5_ := Aside0.mk (below_step (by repeat (first | (with_reducible first | exact HB.out | apply below_alloc | apply pw_below_drewN | apply below_drew1) | exact HB.out)) hb); clear HO382; clear HO385; clear HO389; clear HO397; clear HO401; clear HB; have HO382 := n0_; have HO385 := n1_; have HO389 := n2_; have HO397 := n3_; have HO401 := n4_; have HB := n5_; clear n0_ n1_ n2_ n3_ n4_ n5_; (try clear hb); (try clear hb2); (try clear hk); (try clear hi)))
                    go_meet
                    case rel => exact ⟨_, ((t407 != (t390 != 1))), (by first | rfl | (simp; done) | (simp [*]; done)), H', ⟨by first | omega | exact Nat.le_refl _⟩, ⟨by (with_reducible repeat (first | apply Kd.R_alloc | apply Kd.R_drewN | apply Kd.R_drew)); exact Kd.R_mono HO382.out (fun _ hk => trivial)⟩, ⟨by (with_reducible repeat (first | apply Kd.V_alloc | apply Kd.V_drewN | apply Kd.V_drew)); exact Kd.V_mono HO385.out (fun _ hk => hk.1)⟩, ⟨by repeat (first | (with_reducible first | exact HB.out | apply below_alloc | apply pw_below_drewN | apply below_drew1) | exact HB.out)⟩⟩
                  · rw [if_neg c33] at H
                    have c33b0 : (t392 == t386) = false := beq_eq_false_iff_ne.mpr c33
                    have c33b1 : (t392 != t386) = true := bne_iff_ne.mpr c33
                    have H' := Aside0.mk H
                    clear H
                    obtain ⟨Ao38, co38, eo38⟩ := Kd.V_slice HO385.out
                    subst eo38
                    obtain ⟨Ao39, co39, eo39⟩ := Kd.V_slice HO389.out
                    subst eo39
                    go_wp2_with (first | (go_at_call 41; (with_reducible refine (laws_likeInts.calls k _ _ t383 _ _ t387 true _ ?side1 ?side2 ?side3 ?side4 A25.out).mono ?_); (case side1 => repeat (first | exact (Kd.V_reads' HO385.out).2.2 | (with_reducible refine Kd.C_alloc ?_ _) | (with_reducible refine Kd.C_drewN ?_ _) | (with_reducible refine Kd.C_drew ?_))); (case side2 => exact (Kd.V_reads' HO385.out).2.1); (case side3 => repeat (first | exact (Kd.V_reads' HO389.out).2.2 | (with_reducible refine Kd.C_alloc ?_ _) | (with_reducible refine Kd.C_drewN ?_ _) | (with_reducible refine Kd.C_drew ?_))); (case side4 => exact (Kd.V_reads' HO389.out).2.1); rintro e w' ⟨rfl, ⟨nd, rfl⟩⟩))
                    go_meet
                    case rel => exact ⟨_, (true), (by first | rfl | (simp; done) | (simp [*]; done)), H', ⟨by first | omega | exact Nat.le_refl _⟩, ⟨by (with_reducible repeat (first | apply Kd.R_alloc | apply Kd.R_drewN | apply Kd.R_drew)); exact Kd.R_mono HO382.out (fun _ hk => trivial)⟩, ⟨by (with_reducible repeat (first | apply Kd.V_alloc | apply Kd.V_drewN | apply Kd.V_drew)); exact Kd.V_mono HO385.out (fun _ hk => hk.1)⟩, ⟨by repeat (first | (with_reducible first | exact HB.out | apply below_alloc | apply pw_below_drewN | apply below_drew1) | exact HB.out)⟩⟩
              · rw [if_neg c29] at H
                have c29b0 : (t403 == t405) = false := beq_eq_false_iff_ne.mpr c29
                have c29b1 : (t403 != t405) = true := bne_iff_ne.mpr c29
                have H' := Aside0.mk H
                clear H
                obtain ⟨Ao40, co40, eo40⟩ := Kd.V_slice HO385.out
                subst eo40
                obtain ⟨Ao41, co41, eo41⟩ := Kd.V_slice HO389.out
                subst eo41
                go_wp2_with (first | (go_at_call 41; (with_reducible refine (laws_likeInts.calls k _ _ t383 _ _ t387 true _ ?side1 ?side2 ?side3 ?side4 A25.out).mono ?_); (case side1 => repeat (first | exact (Kd.V_reads' HO385.out).2.2 | (with_reducible refine Kd.C_alloc ?_ _) | (with_reducible refine Kd.C_drewN ?_ _) | (with_reducible refine Kd.C_drew ?_))); (case side2 => exact (Kd.V_reads' HO385.out).2.1); (case side3 => repeat (first | exact (Kd.V_reads' HO389.out).2.2 | (with_reducible refine Kd.C_alloc ?_ _) | (with_reducible refine Kd.C_drewN ?_ _) | (with_reducible refine Kd.C_drew ?_))); (case side4 => exact (Kd.V_reads' HO389.out).2.1); rintro e w' ⟨rfl, ⟨nd, rfl⟩⟩))
                go_meet
                case rel => exact ⟨_, (true), (by first | rfl | (simp; done) | (simp [*]; done)), H', ⟨by first | omega | exact Nat.le_refl _⟩, ⟨by (with_reducible repeat (first | apply Kd.R_alloc | apply Kd.R_drewN | apply Kd.R_drew)); exact Kd.R_mono HO382.out (fun _ hk => trivial)⟩, ⟨by (with_reducible repeat (first | apply Kd.V_alloc | apply Kd.V_drewN | apply Kd.V_drew)); exact Kd.V_mono HO385.out (fun _ hk => hk.1)⟩, ⟨by repeat (first | (with_reducible first | exact HB.out | apply below_alloc | apply pw_below_drewN | apply below_drew1) | exact HB.out)⟩⟩
            · rw [if_neg c28] at H
              have c28b0 : (t391 == t393) = false := beq_eq_false_iff_ne.mpr c28
              have c28b1 : (t391 != t393) = true := bne_iff_ne.mpr c28
              have H' := Aside0.mk H
              clear H
              obtain ⟨Ao42, co42, eo42⟩ := Kd.V_slice HO385.out
              subst eo42
              obtain ⟨Ao43, co43, eo43⟩ := Kd.V_slice HO389.out
              subst eo43
              go_wp2_with (first | (go_at_call 41; (with_reducible refine (laws_likeInts.calls k _ _ t383 _ _ t387 true _ ?side1 ?side2 ?side3 ?side4 A25.out).mono ?_); (case side1 => repeat (first | exact (Kd.V_reads' HO385.out).2.2 | (with_reducible refine Kd.C_alloc ?_ _) | (with_reducible refine Kd.C_drewN ?_ _) | (with_reducible refine Kd.C_drew ?_))); (case side2 => exact (Kd.V_reads' HO385.out).2.1); (case side3 => repeat (first | exact (Kd.V_reads' HO389.out).2.2 | (with_reducible refine Kd.C_alloc ?_ _) | (with_reducible refine Kd.C_drewN ?_ _) | (with_reducible refine Kd.C_drew ?_))); (case side4 => exact (Kd.V_reads' HO389.out).2.1); rintro e w' ⟨rfl, ⟨nd, rfl⟩⟩))
              go_meet
              case rel => exact ⟨_, (true), (by first | rfl | (simp; done) | (simp [*]; done)), H', ⟨by first | omega | exact Nat.le_refl _⟩, ⟨by (with_reducible repeat (first | apply Kd.R_alloc | apply Kd.R_drewN | apply Kd.R_drew)); exact Kd.R_mono HO382.out (fun _ hk => trivial)⟩, ⟨by (with_reducible repeat (first | apply Kd.V_alloc | apply Kd.V_drewN | apply Kd.V_drew)); exact Kd.V_mono HO385.out (fun _ hk => hk.1)⟩, ⟨by repeat (first | (with_reducible first | exact HB.out | apply below_alloc | apply pw_below_drewN | apply below_drew1) | exact HB.out)⟩⟩
          · rw [if_neg c27] at H
            have c27b0 : (t392 == t394) = false := beq_eq_false_iff_ne.mpr c27
            have c27b1 : (t392 != t394) = true := bne_iff_ne.mpr c27
            have H' := Aside0.mk H
            clear H
            obtain ⟨Ao44, co44, eo44⟩ := Kd.V_slice HO385.out
            subst eo44
            obtain ⟨Ao45, co45, eo45⟩ := Kd.V_slice HO389.out
            subst eo45
            go_wp2_with (first | (go_at_call 41; (with_reducible refine (laws_likeInts.calls k _ _ t383 _ _ t387 true _ ?side1 ?side2 ?side3 ?side4 A25.out).mono ?_); (case side1 => repeat (first | exact (Kd.V_reads' HO385.out).2.2 | (with_reducible refine Kd.C_alloc ?_ _) | (with_reducible refine Kd.C_drewN ?_ _) | (with_reducible refine Kd.C_drew ?_))); (case side2 => exact (Kd.V_reads' HO385.out).2.1); (case side3 => repeat (first | exact (Kd.V_reads' HO389.out).2.2 | (with_reducible refine Kd.C_alloc ?_ _) | (with_reducible refine Kd.C_drewN ?_ _) | (with_reducible refine Kd.C_drew ?_))); (case side4 => exact (Kd.V_reads' HO389.out).2.1); rintro e w' ⟨rfl, ⟨nd, rfl⟩⟩))
            go_meet
            case rel => exact ⟨_, (true), (by first | rfl | (simp; done) | (simp [*]; done)), H', ⟨by first | omega | exact Nat.le_refl _⟩, ⟨by (with_reducible repeat (first | apply Kd.R_alloc | apply Kd.R_drewN | apply Kd.R_drew)); exact Kd.R_mono HO382.out (fun _ hk => trivial)⟩, ⟨by (with_reducible repeat (first | apply Kd.V_alloc | apply Kd.V_drewN | apply Kd.V_drew)); exact Kd.V_mono HO385.out (fun _ hk => hk.1)⟩, ⟨by repeat (first | (with_reducible first | exact HB.out | apply below_alloc | apply pw_below_drewN | apply below_drew1) | exact HB.out)⟩⟩
        · replace c26 := Bool.eq_false_iff.mpr c26
          subst c26
          have H1 : (laws_FnLoadings.j0 k t379 t380 t383 t386 t391 true) = some r := by rw [if_neg (show ¬ (false = true) by decide)] at H; exact H
          clear H
          have H := H1
          clear H1
          have H' := Aside0.mk H
          clear H
          obtain ⟨Ao46, co46, eo46⟩ := Kd.V_slice HO385.out
          subst eo46
          obtain ⟨Ao47, co47, eo47⟩ := Kd.V_slice HO389.out
          subst eo47
          go_wp2_with (first | (go_at_call 41; (with_reducible refine (laws_likeInts.calls k _ _ t383 _ _ t387 false _ ?side1 ?side2 ?side3 ?side4 A25.out).mono ?_); (case side1 => repeat (first | exact (Kd.V_reads' HO385.out).2.2 | (with_reducible refine Kd.C_alloc ?_ _) | (with_reducible refine Kd.C_drewN ?_ _) | (with_reducible refine Kd.C_drew ?_))); (case side2 => exact (Kd.V_reads' HO385.out).2.1); (case side3 => repeat (first | exact (Kd.V_reads' HO389.out).2.2 | (with_reducible refine Kd.C_alloc ?_ _) | (with_reducible refine Kd.C_drewN ?_ _) | (with_reducible refine Kd.C_drew ?_))); (case side4 => exact (Kd.V_reads' HO389.out).2.1); rintro e w' ⟨rfl, ⟨nd, rfl⟩⟩))
          go_meet
          case rel => exact ⟨_, (true), (by first | rfl | (simp; done) | (simp [*]; done)), H', ⟨by first | omega | exact Nat.le_refl _⟩, ⟨by (with_reducible repeat (first | apply Kd.R_alloc | apply Kd.R_drewN | apply Kd.R_drew)); exact Kd.R_mono HO382.out (fun _ hk => trivial)⟩, ⟨by (with_reducible repeat (first | apply Kd.V_alloc | apply Kd.V_drewN | apply Kd.V_drew)); exact Kd.V_mono HO385.out (fun _ hk => hk.1)⟩, ⟨by repeat (first | (with_reducible first | exact HB.out | apply below_alloc | apply pw_below_drewN | apply below_drew1) | exact HB.out)⟩⟩
      · rw [if_neg c24] at H
        have c24b0 : (t386 == t390) = false := beq_eq_false_iff_ne.mpr c24
        have c24b1 : (t386 != t390) = true := bne_iff_ne.mpr c24
        (first | rw [c24b0] | (simp only [i64_w, i32_w]; rw [c24b0]) | skip)
        have H' := Aside0.mk H
        clear H
        go_wp2
        go_meet
        case rel => exact ⟨_, (true), (by first | rfl | (simp; done) | (simp [*]; done)), H', ⟨by first | omega | exact Nat.le_refl _⟩, ⟨by (with_reducible repeat (first | apply Kd.R_alloc | apply Kd.R_drewN | apply Kd.R_drew)); exact Kd.R_mono HO382.out (fun _ hk => trivial)⟩, ⟨by (with_reducible repeat (first | apply Kd.V_alloc | apply Kd.V_drewN | apply Kd.V_drew)); exact Kd.V_mono HO385.out (fun _ hk => hk.1)⟩, ⟨by repeat (first | (with_reducible first | exact HB.out | apply below_alloc | apply pw_below_drewN | apply below_drew1) | exact HB.out)⟩⟩
    case rest =>
      clear HC12
      try clear c1
      try clear c2
      try clear p2
      try clear c3
      try clear c4
      try clear c11
      try clear c20
      try clear c21
      try clear c22
      try clear c24
      try clear c24b0
      try clear c24b1
      try clear c26
      try clear c27
      try clear c27b0
      try clear c27b1
      try clear c28
      try clear c28b0
      try clear c28b1
      try clear c29
      try clear c29b0
      try clear c29b1
      try clear c30
      try clear c30b0
      try clear c30b1
      try clear c30b2
      try clear c32
      try clear c33
      try clear c33b0
      try clear c33b1
      try clear c38
      try clear c39
      try clear c40
      obtain ⟨kq, x119_11, rfl, HA, HJ11, HO_3, HO_5, HB⟩ := hcut
      cases kq with
      | zero => exact absurd HA.out (by simp [laws_FnLoadings.j0])
      | succ kj11 =>
        have H := HA.out
        clear HA
        simp only [laws_FnLoadings.j0] at H
        by_cases c48 : x119_11 = true
        · subst c48
          have H1 : (some false) = some r := by rw [if_pos rfl] at H; exact H
          clear H
          have H := H1
          clear H1
          obtain rfl := Option.some.inj H
          go_wp2
          go_ret
          exact ⟨by first | rfl | (simp [errW_none, errW_some] <;> rfl) | (simp [*, errW_none, errW_some] <;> rfl), by repeat (first | (with_reducible first | exact HB.out | apply below_alloc | apply pw_below_drewN | apply below_drew1) | exact HB.out)⟩
        · replace c48 := Bool.eq_false_iff.mpr c48
          subst c48
          have H1 : (if t386 = 0 then ((impl_IsLoading.f kj11 t379 t380 t383).bind fun bt408 => (laws_FnLoadings.l0 kj11 t379 t380 t383 t391 bt408.1 bt408.2 0 0)) else (some true)) = some r := by rw [if_neg (show ¬ (false = true) by decide)] at H; exact H
          clear H
          have H := H1
          clear H1
          by_cases c49 : t386 = 0
          · rw [if_pos c49] at H
            have c49b0 : (t386 == 0) = true := beq_iff_eq.mpr c49
            have c49b1 : (t386 != 0) = false := bne_eq_false_iff_eq.mpr c49
            clear c49
            replace H := Option.bind_eq_some_iff.mp H
            obtain ⟨⟨t408, t409⟩, A500, H⟩ := H
            replace H : (laws_FnLoadings.l0 kj11 t379 t380 t383 t391 t408 t409 0 0) = some r := H
            have A50 := Aside0.mk A500
            clear A500
            have H' := Aside0.mk H
            clear H
            obtain ⟨Ao51, co51, eo51⟩ := Kd.V_slice HO_5.out
            subst eo51
            go_wp2_with (first | ((with_reducible refine gate_callee (f := 24) rfl ?_); refine goesL_ (some 126) rfl rfl Try.func24 (by kernel_rfl) rfl #[.slice Ao14 t379.length co14, .int .i64 t380, .slice Ao51 t383.length co51] rfl (by (try simp only [List.map_toArray, List.map_cons, List.map_nil]); first | done | rfl | (simp only [List.length_drop, List.length_take]; rfl)) ?_; (with_reducible refine (impl_IsLoading.calls kj11 _ _ t379 t380 _ _ t383 t408 t409 _ ?side1 ?side2 ?side3 ?side4 A50.out).mono ?_); (case side1 => repeat (first | exact (Kd.R_reads' HO_3.out).2.2 | (with_reducible refine Kd.C_alloc ?_ _) | (with_reducible refine Kd.C_drewN ?_ _) | (with_reducible refine Kd.C_drew ?_))); (case side2 => exact (Kd.R_reads' HO_3.out).2.1); (case side3 => repeat (first | exact (Kd.V_reads' HO_5.out).2.2 | (with_reducible refine Kd.C_alloc ?_ _) | (with_reducible refine Kd.C_drewN ?_ _) | (with_reducible refine Kd.C_drew ?_))); (case side4 => exact (Kd.V_reads' HO_5.out).2.1); rintro e w52 ⟨rfl, hb⟩; refine ⟨_, rfl, ?_⟩; have n0_ := Aside0.mk (Kd.R_below (by (with_reducible repeat (first | apply Kd.R_alloc | apply Kd.R_drewN | apply Kd.R_drew)); exact HO_3.out) hb); have n1_ := Aside0.mk (Kd.V_below (by (with_reducible repeat (first | apply Kd.V_alloc | apply Kd.V_drewN | apply Kd.V_drew)); exact HO_5.out) hb); have n2_ := Aside0.mk (below_step (by repeat (first | (with_reducible first | exact HB.out | apply below_alloc | apply pw_below_drewN | apply below_drew1) | exact HB.out)) hb); clear HO_3; clear HO_5; clear HB; have HO_3 := n0_; have HO_5 := n1_; have HB := n2_; clear n0_ n1_ n2_; (try clear hb); (try clear hb2); (try clear hk); (try clear hi)))
            go_loopg [22, 23] kj11 (fun kq v22 v23 w' => ∃ (x22_2 : Int) (x23_2 : Int), v22 = .int .i64 x22_2 ∧ v23 = .int .i64 x23_2 ∧ Aside0 (laws_FnLoadings.l0 kq t379 t380 t383 t391 t408 t409 x22_2 x23_2 = some r) ∧ Aside0 (kq ≤ kj11) ∧ Aside0 (Kd.R k55 55 w' w.heap.size (fun _ => True) (.slice Ao14 t379.length co14) t379) ∧ Aside0 (Kd.V (Kd.int .i64) 2 w' w.heap.size (fun k_ => some k_ ≠ ((.slice Ao14 t379.length co14) : Value).ownBlock) (.slice Ao51 t383.length co51) t383) ∧ Aside0 (Below w.heap.size w w'))
            case atStart => exact ⟨(0), (0), (by first | rfl | (simp; done) | (simp [*]; done)), (by first | rfl | (simp; done) | (simp [*]; done)), H', ⟨Nat.le_refl _⟩, ⟨by (with_reducible repeat (first | apply Kd.R_alloc | apply Kd.R_drewN | apply Kd.R_drew)); exact HO_3.out⟩, ⟨by (with_reducible repeat (first | apply Kd.V_alloc | apply Kd.V_drewN | apply Kd.V_drew)); exact HO_5.out⟩, ⟨by repeat (first | (with_reducible first | exact HB.out | apply below_alloc | apply pw_below_drewN | apply below_drew1) | exact HB.out)⟩⟩
            case round =>
              clear H'
              try clear c1
              try clear c2
              try clear p2
              try clear c3
              try clear c4
              try clear c11
              try clear c20
              try clear c21
              try clear c22
              try clear c24
              try clear c24b0
              try clear c24b1
              try clear c26
              try clear c27
              try clear c27b0
              try clear c27b1
              try clear c28
              try clear c28b0
              try clear c28b1
              try clear c29
              try clear c29b0
              try clear c29b1
              try clear c30
              try clear c30b0
              try clear c30b1
              try clear c30b2
              try clear c32
              try clear c33
              try clear c33b0
              try clear c33b1
              try clear c38
              try clear c39
              try clear c40
              try clear c48
              try clear c49
              try clear c49b0
              try clear c49b1
              try clear p2
              obtain ⟨x22_2, x23_2, rfl, rfl, HA, HK2, HO_3, HO_5, HB⟩ := hrel
              cases gk with
              | zero => exact absurd HA.out (by simp [laws_FnLoadings.l0])
              | succ k2 =>
                have H := HA.out
                clear HA
                simp only [laws_FnLoadings.l0] at H
                by_cases c53 : x23_2 < (t383.length : Int)
                · rw [if_pos c53] at H
                  have c53b0 : decide (x23_2 < (t383.length : Int)) = true := decide_eq_true c53
                  clear c53
                  by_cases c54 : 0 ≤ x23_2
                  · rw [if_pos c54] at H
                    have c54b0 : decide (0 ≤ x23_2) = true := decide_eq_true c54
                    clear c54
                    by_cases c55 : (rd t383 x23_2) > x22_2
                    · rw [if_pos c55] at H
                      have c55b0 : decide (x22_2 < (rd t383 x23_2)) = true := decide_eq_true c55
                      clear c55
                      obtain rfl := Option.some.inj H
                      have p410 : 0 ≤ (x23_2 : Int) := of_decide_eq_true (by first | (with_reducible assumption) | assumption)
                      have q410 : x23_2 < (t383.length : Int) := of_decide_eq_true (by first | (with_reducible assumption) | assumption)
                      obtain ⟨ad410, e410, hx410_0⟩ := Kd.at_int (Kd.V_reads' HO_5.out).2.2 x23_2 p410 q410
                      cases e410
                      replace p410 := eq_true p410
                      replace q410 := eq_true q410
                      go_wp2
                      go_ret
                      exact ⟨by first | rfl | (simp [errW_none, errW_some] <;> rfl) | (simp [*, errW_none, errW_some] <;> rfl), by repeat (first | (with_reducible first | exact HB.out | apply below_alloc | apply pw_below_drewN | apply below_drew1) | exact HB.out)⟩
                    · rw [if_neg c55] at H
                      have c55b0 : decide (x22_2 < (rd t383 x23_2)) = false := decide_eq_false c55
                      clear c55
                      obtain ⟨ji56, hji56⟩ : ∃ j_ : Int, (mx x22_2 (wrap64 ((rd t383 x23_2) + 1))) = j_ := ⟨_, rfl⟩
                      replace H : (laws_FnLoadings.l0 k2 t379 t380 t383 t391 t408 t409 ji56 (wrap64 (x23_2 + 1))) = some r := by first | (rw [hji56] at H; exact H) | (simp only [hji56] at H ⊢; exact H)
                      have hji56_ : (if x22_2 < (wrap64 ((rd t383 x23_2) + 1)) then (wrap64 ((rd t383 x23_2) + 1)) else x22_2) = ji56 := hji56
                      have H' := Aside0.mk H
                      clear H
                      have p410 : 0 ≤ (x23_2 : Int) := of_decide_eq_true (by first | (with_reducible assumption) | assumption)
                      have q410 : x23_2 < (t383.length : Int) := of_decide_eq_true (by first | (with_reducible assumption) | assumption)
                      obtain ⟨ad410, e410, hx410_0⟩ := Kd.at_int (Kd.V_reads' HO_5.out).2.2 x23_2 p410 q410
                      cases e410
                      replace p410 := eq_true p410
                      replace q410 := eq_true q410
                      have p411 : 0 ≤ (x23_2 : Int) := of_decide_eq_true (by first | (with_reducible assumption) | assumption)
                      have q411 : x23_2 < (t383.length : Int) := of_decide_eq_true (by first | (with_reducible assumption) | assumption)
                      obtain ⟨ad411, e411, hx411_0⟩ := Kd.at_int (Kd.V_reads' HO_5.out).2.2 x23_2 p411 q411
                      obtain rfl : ad410 = ad411 := (by injection e411)
                      replace p411 := eq_true p411
                      replace q411 := eq_true q411
                      go_wp2
                      go_roundg k2
                      case measure => have := HJ11.out; have := HK2.out; omega
                      case rel => exact ⟨(ji56), (wrap64 (x23_2 + 1)), (by first | rfl | (simp; done) | (simp only [← hji56] <;> (first | rfl | simp)) | (simp [*]; done)), (by first | rfl | (simp; done) | (simp [*]; done)), H', ⟨by have := HJ11.out; have := HK2.out; omega⟩, ⟨by (with_reducible repeat (first | apply Kd.R_alloc | apply Kd.R_drewN | apply Kd.R_drew)); exact HO_3.out⟩, ⟨by (with_reducible repeat (first | apply Kd.V_alloc | apply Kd.V_drewN | apply Kd.V_drew)); exact HO_5.out⟩, ⟨by repeat (first | (with_reducible first | exact HB.out | apply below_alloc | apply pw_below_drewN | apply below_drew1) | exact HB.out)⟩⟩
                  · rw [if_neg c54] at H
                    exact absurd H (by simp)
                · rw [if_neg c53] at H
                  have c53b0 : decide (x23_2 < (t383.length : Int)) = false := decide_eq_false c53
                  clear c53
                  have HC57 := Aside0.mk H
                  clear H
                  go_upto_region 23 with (fail)
                  go_cut [158] (fun v158 wc => ∃ (kq : Nat) (x158_56 : Bool), v158 = .bool x158_56 ∧ Aside0 (laws_FnLoadings.j2 kq t379 t380 t391 x158_56 = some r) ∧ Aside0 (kq ≤ k2) ∧ Aside0 (Kd.R k55 55 wc w.heap.size (fun _ => True) (.slice Ao14 t379.length co14) t379) ∧ Aside0 (Below w.heap.size w wc))
                  case first =>
                    have H := HC57.out
                    clear HC57
                    by_cases c58 : t409 = 0
                    · rw [if_pos c58] at H
                      have c58b0 : (t409 == 0) = true := beq_iff_eq.mpr c58
                      have c58b1 : (t409 != 0) = false := bne_eq_false_iff_eq.mpr c58
                      clear c58
                      (first | rw [c58b0] | (simp only [i64_w, i32_w]; rw [c58b0]) | skip)
                      by_cases c59 : t408 = true
                      · subst c59
                        have H1 : (laws_FnLoadings.j2 k2 t379 t380 t391 (x22_2 != t391)) = some r := by rw [if_pos rfl] at H; exact H
                        clear H
                        have H := H1
                        clear H1
                        have H' := Aside0.mk H
                        clear H
                        go_wp2
                        go_meet
                        case rel => exact ⟨_, ((x22_2 != t391)), (by first | rfl | (simp; done) | (simp [*]; done)), H', ⟨by have := HJ11.out; have := HK2.out; first | omega | exact Nat.le_refl _⟩, ⟨by (with_reducible repeat (first | apply Kd.R_alloc | apply Kd.R_drewN | apply Kd.R_drew)); exact HO_3.out⟩, ⟨by repeat (first | (with_reducible first | exact HB.out | apply below_alloc | apply pw_below_drewN | apply below_drew1) | exact HB.out)⟩⟩
                      · replace c59 := Bool.eq_false_iff.mpr c59
                        subst c59
                        have H1 : (laws_FnLoadings.j2 k2 t379 t380 t391 true) = some r := by rw [if_neg (show ¬ (false = true) by decide)] at H; exact H
                        clear H
                        have H := H1
                        clear H1
                        have H' := Aside0.mk H
                        clear H
                        go_wp2
                        go_meet
                        case rel => exact ⟨_, (true), (by first | rfl | (simp; done) | (simp [*]; done)), H', ⟨by have := HJ11.out; have := HK2.out; first | omega | exact Nat.le_refl _⟩, ⟨by (with_reducible repeat (first | apply Kd.R_alloc | apply Kd.R_drewN | apply Kd.R_drew)); exact HO_3.out⟩, ⟨by repeat (first | (with_reducible first | exact HB.out | apply below_alloc | apply pw_below_drewN | apply below_drew1) | exact HB.out)⟩⟩
                    · rw [if_neg c58] at H
                      have c58b0 : (t409 == 0) = false := beq_eq_false_iff_ne.mpr c58
                      have c58b1 : (t409 != 0) = true := bne_iff_ne.mpr c58
                      (first | rw [c58b0] | (simp only [i64_w, i32_w]; rw [c58b0]) | skip)
                      have H' := Aside0.mk H
                      clear H
                      go_wp2
                      go_meet
                      case rel => exact ⟨_, (true), (by first | rfl | (simp; done) | (simp [*]; done)), H', ⟨by have := HJ11.out; have := HK2.out; first | omega | exact Nat.le_refl _⟩, ⟨by (with_reducible repeat (first | apply Kd.R_alloc | apply Kd.R_drewN | apply Kd.R_drew)); exact HO_3.out⟩, ⟨by repeat (first | (with_reducible first | exact HB.out | apply below_alloc | apply pw_below_drewN | apply below_drew1) | exact HB.out)⟩⟩
                  case rest =>
                    clear HC57
                    try clear c1
                    try clear c2
                    try clear p2
                    try clear c3
                    try clear c4
                    try clear p4
                    try clear q4
                    try clear hx4
                    try clear c5
                    try clear p6
                    try clear c11
                    try clear c20
                    try clear c21
                    try clear c22
                    try clear c24
                    try clear c24b0
                    try clear c24b1
                    try clear c26
                    try clear c27
                    try clear c27b0
                    try clear c27b1
                    try clear c28
                    try clear c28b0
                    try clear c28b1
                    try clear c29
                    try clear c29b0
                    try clear c29b1
                    try clear c30
                    try clear c30b0
                    try clear c30b1
                    try clear c30b2
                    try clear c32
                    try clear c33
                    try clear c33b0
                    try clear c33b1
                    try clear c38
                    try clear c39
                    try clear c40
                    try clear p41
                    try clear q41
                    try clear hx41
                    try clear c48
                    try clear c49
                    try clear c49b0
                    try clear c49b1
                    try clear c53
                    try clear c53b0
                    try clear c54
                    try clear c54b0
                    try clear c55
                    try clear c55b0
                    try clear c58
                    try clear c58b0
                    try clear c58b1
                    try clear c59
                    try clear hx410_0
                    try clear hx411_0
                    try clear p2
                    try clear p410
                    try clear p411
                    try clear q410
                    try clear q411
                    obtain ⟨kq, x158_56, rfl, HA, HJ56, HO_3, HB⟩ := hcut
                    cases kq with
                    | zero => exact absurd HA.out (by simp [laws_FnLoadings.j2])
                    | succ kj56 =>
                      have H := HA.out
                      clear HA
                      simp only [laws_FnLoadings.j2] at H
                      by_cases c60 : x158_56 = true
                      · subst c60
                        have H1 : (some false) = some r := by rw [if_pos rfl] at H; exact H
                        clear H
                        have H := H1
                        clear H1
                        obtain rfl := Option.some.inj H
                        go_wp2
                        go_ret
                        exact ⟨by first | rfl | (simp [errW_none, errW_some] <;> rfl) | (simp [*, errW_none, errW_some] <;> rfl), by repeat (first | (with_reducible first | exact HB.out | apply below_alloc | apply pw_below_drewN | apply below_drew1) | exact HB.out)⟩
                      · replace c60 := Bool.eq_false_iff.mpr c60
                        subst c60
                        have H1 : (if t391 < 2 then (some true) else ((impl_CountLoadings.f kj56 t379 t380 (wrap64 (t391 - 1))).bind fun bt412 => ((impl_CountLoadings.f kj56 t379 t380 t391).bind fun bt414 => (if bt412.2 = 0 then (if bt412.1 = 0 then (if bt414.2 = 0 then (some (decide (bt414.1 > 0))) else (some false)) else (some false)) else (some false))))) = some r := by rw [if_neg (show ¬ (false = true) by decide)] at H; exact H
                        clear H
                        have H := H1
                        clear H1
                        by_cases c61 : t391 < 2
                        · rw [if_pos c61] at H
                          have c61b0 : decide (t391 < 2) = true := decide_eq_true c61
                          clear c61
                          obtain rfl := Option.some.inj H
                          go_wp2
                          go_ret
                          exact ⟨by first | rfl | (simp [errW_none, errW_some] <;> rfl) | (simp [*, errW_none, errW_some] <;> rfl), by repeat (first | (with_reducible first | exact HB.out | apply below_alloc | apply pw_below_drewN | apply below_drew1) | exact HB.out)⟩
                        · rw [if_neg c61] at H
                          have c61b0 : decide (t391 < 2) = false := decide_eq_false c61
                          clear c61
                          replace H := Option.bind_eq_some_iff.mp H
                          obtain ⟨⟨t412, t413⟩, A620, H⟩ := H
                          replace H : ((impl_CountLoadings.f kj56 t379 t380 t391).bind fun bt414 => (if t413 = 0 then (if t412 = 0 then (if bt414.2 = 0 then (some (decide (bt414.1 > 0))) else (some false)) else (some false)) else (some false))) = some r := H
                          have A62 := Aside0.mk A620
                          clear A620
                          replace H := Option.bind_eq_some_iff.mp H
                          obtain ⟨⟨t414, t415⟩, A630, H⟩ := H
                          replace H : (if t413 = 0 then (if t412 = 0 then (if t415 = 0 then (some (decide (t414 > 0))) else (some false)) else (some false)) else (some false)) = some r := H
                          have A63 := Aside0.mk A630
                          clear A630
                          by_cases c64 : t413 = 0
                          · rw [if_pos c64] at H
                            have c64b0 : (t413 == 0) = true := beq_iff_eq.mpr c64
                            have c64b1 : (t413 != 0) = false := bne_eq_false_iff_eq.mpr c64
                            clear c64
                            by_cases c65 : t412 = 0
                            · rw [if_pos c65] at H
                              have c65b0 : (t412 == 0) = true := beq_iff_eq.mpr c65
                              have c65b1 : (t412 != 0) = false := bne_eq_false_iff_eq.mpr c65
                              clear c65
                              by_cases c66 : t415 = 0
                              · rw [if_pos c66] at H
                                have c66b0 : (t415 == 0) = true := beq_iff_eq.mpr c66
                                have c66b1 : (t415 != 0) = false := bne_eq_false_iff_eq.mpr c66
                                clear c66
                                obtain rfl := Option.some.inj H
                                go_wp2_with (first | ((with_reducible refine gate_callee (f := 19) rfl ?_); refine goesL_ (some 166) rfl rfl Try.func19 (by kernel_rfl) rfl #[.slice Ao14 t379.length co14, .int .i64 t380, .int .i64 (wrap64 (t391 - 1))] rfl (by (try simp only [List.map_toArray, List.map_cons, List.map_nil]); first | done | rfl | (simp only [List.length_drop, List.length_take]; rfl)) ?_; (with_reducible refine (impl_CountLoadings.calls kj56 _ _ t379 t380 (wrap64 (t391 - 1)) t412 t413 _ ?side1 ?side2 A62.out).mono ?_); (case side1 => repeat (first | exact (Kd.R_reads' HO_3.out).2.2 | (with_reducible refine Kd.C_alloc ?_ _) | (with_reducible refine Kd.C_drewN ?_ _) | (with_reducible refine Kd.C_drew ?_))); (case side2 => exact (Kd.R_reads' HO_3.out).2.1); rintro e w67 ⟨rfl, hb⟩; refine ⟨_, rfl, ?_⟩; have n0_ := Aside0.mk (Kd.R_below (by (with_reducible repeat (first | apply Kd.R_alloc | apply Kd.R_drewN | apply Kd.R_drew)); exact HO_3.out) hb); have n1_ := Aside0.mk (below_step (by repeat (first | (with_reducible first | exact HB.out | apply below_alloc | apply pw_below_drewN | apply below_drew1) | exact HB.out)) hb); clear HO_3; clear HB; have HO_3 := n0_; have HB := n1_; clear n0_ n1_; (try clear hb); (try clear hb2); (try clear hk); (try clear hi)) | ((with_reducible refine gate_callee (f := 19) rfl ?_); refine goesL_ (some 173) rfl rfl Try.func19 (by kernel_rfl) rfl #[.slice Ao14 t379.length co14, .int .i64 t380, .int .i64 t391] rfl (by (try simp only [List.map_toArray, List.map_cons, List.map_nil]); first | done | rfl | (simp only [List.length_drop, List.length_take]; rfl)) ?_; (with_reducible refine (impl_CountLoadings.calls kj56 _ _ t379 t380 t391 t414 t415 _ ?side1 ?side2 A63.out).mono ?_); (case side1 => repeat (first | exact (Kd.R_reads' HO_3.out).2.2 | (with_reducible refine Kd.C_alloc ?_ _) | (with_reducible refine Kd.C_drewN ?_ _) | (with_reducible refine Kd.C_drew ?_))); (case side2 => exact (Kd.R_reads' HO_3.out).2.1); rintro e w68 ⟨rfl, hb⟩; refine ⟨_, rfl, ?_⟩; have n0_ := Aside0.mk (Kd.R_below (by (with_reducible repeat (first | apply Kd.R_alloc | apply Kd.R_drewN | apply Kd.R_drew)); exact HO_3.out) hb); have n1_ := Aside0.mk (below_step (by repeat (first | (with_reducible first | exact HB.out | apply below_alloc | apply pw_below_drewN | apply below_drew1) | exact HB.out)) hb); clear HO_3; clear HB; have HO_3 := n0_; have HB := n1_; clear n0_ n1_; (try clear hb); (try clear hb2); (try clear hk); (try clear hi)))
                                go_ret
                                exact ⟨by first | rfl | (simp [errW_none, errW_some] <;> rfl) | (simp [*, errW_none, errW_some] <;> rfl), by repeat (first | (with_reducible first | exact HB.out | apply below_alloc | apply pw_below_drewN | apply below_drew1) | exact HB.out)⟩
                              · rw [if_neg c66] at H
                                have c66b0 : (t415 == 0) = false := beq_eq_false_iff_ne.mpr c66
                                have c66b1 : (t415 != 0) = true := bne_iff_ne.mpr c66
                                obtain rfl := Option.some.inj H
                                go_wp2_with (first | ((with_reducible refine gate_callee (f := 19) rfl ?_); refine goesL_ (some 166) rfl rfl Try.func19 (by kernel_rfl) rfl #[.slice Ao14 t379.length co14, .int .i64 t380, .int .i64 (wrap64 (t391 - 1))] rfl (by (try simp only [List.map_toArray, List.map_cons, List.map_nil]); first | done | rfl | (simp only [List.length_drop, List.length_take]; rfl)) ?_; (with_reducible refine (impl_CountLoadings.calls kj56 _ _ t379 t380 (wrap64 (t391 - 1)) t412 t413 _ ?side1 ?side2 A62.out).mono ?_); (case side1 => repeat (first | exact (Kd.R_reads' HO_3.out).2.2 | (with_reducible refine Kd.C_alloc ?_ _) | (with_reducible refine Kd.C_drewN ?_ _) | (with_reducible refine Kd.C_drew ?_))); (case side2 => exact (Kd.R_reads' HO_3.out).2.1); rintro e w69 ⟨rfl, hb⟩; refine ⟨_, rfl, ?_⟩; have n0_ := Aside0.mk (Kd.R_below (by (with_reducible repeat (first | apply Kd.R_alloc | apply Kd.R_drewN | apply Kd.R_drew)); exact HO_3.out) hb); have n1_ := Aside0.mk (below_step (by repeat (first | (with_reducible first | exact HB.out | apply below_alloc | apply pw_below_drewN | apply below_drew1) | exact HB.out)) hb); clear HO_3; clear HB; have HO_3 := n0_; have HB := n1_; clear n0_ n1_; (try clear hb); (try clear hb2); (try clear hk); (try clear hi)) | ((with_reducible refine gate_callee (f := 19) rfl ?_); refine goesL_ (some 173) rfl rfl Try.func19 (by kernel_rfl) rfl #[.slice Ao14 t379.length co14, .int .i64 t380, .int .i64 t391] rfl (by (try simp only [List.map_toArray, List.map_cons, List.map_nil]); first | done | rfl | (simp only [List.length_drop, List.length_take]; rfl)) ?_; (with_reducible refine (impl_CountLoadings.calls kj56 _ _ t379 t380 t391 t414 t415 _ ?side1 ?side2 A63.out).mono ?_); (case side1 => repeat (first | exact (Kd.R_reads' HO_3.out).2.2 | (with_reducible refine Kd.C_alloc ?_ _) | (with_reducible refine Kd.C_drewN ?_ _) | (with_reducible refine Kd.C_drew ?_))); (case side2 => exact (Kd.R_reads' HO_3.out).2.1); rintro e w70 ⟨rfl, hb⟩; refine ⟨_, rfl, ?_⟩; have n0_ := Aside0.mk (Kd.R_below (by (with_reducible repeat (first | apply Kd.R_alloc | apply Kd.R_drewN | apply Kd.R_drew)); exact HO_3.out) hb); have n1_ := Aside0.mk (below_step (by repeat (first | (with_reducible first | exact HB.out | apply below_alloc | apply pw_below_drewN | apply below_drew1) | exact HB.out)) hb); clear HO_3; clear HB; have HO_3 := n0_; have HB := n1_; clear n0_ n1_; (try clear hb); (try clear hb2); (try clear hk); (try clear hi)))
                                go_ret
                                exact ⟨by first | rfl | (simp [errW_none, errW_some] <;> rfl) | (simp [*, errW_none, errW_some] <;> rfl), by repeat (first | (with_reducible first | exact HB.out | apply below_alloc | apply pw_below_drewN | apply below_drew1) | exact HB.out)⟩
                            · rw [if_neg c65] at H
                              have c65b0 : (t412 == 0) = false := beq_eq_false_iff_ne.mpr c65
                              have c65b1 : (t412 != 0) = true := bne_iff_ne.mpr c65
                              obtain rfl := Option.some.inj H
                              go_wp2_with (first | ((with_reducible refine gate_callee (f := 19) rfl ?_); refine goesL_ (some 166) rfl rfl Try.func19 (by kernel_rfl) rfl #[.slice Ao14 t379.length co14, .int .i64 t380, .int .i64 (wrap64 (t391 - 1))] rfl (by (try simp only [List.map_toArray, List.map_cons, List.map_nil]); first | done | rfl | (simp only [List.length_drop, List.length_take]; rfl)) ?_; (with_reducible refine (impl_CountLoadings.calls kj56 _ _ t379 t380 (wrap64 (t391 - 1)) t412 t413 _ ?side1 ?side2 A62.out).mono ?_); (case side1 => repeat (first | exact (Kd.R_reads' HO_3.out).2.2 | (with_reducible refine Kd.C_alloc ?_ _) | (with_reducible refine Kd.C_drewN ?_ _) | (with_reducible refine Kd.C_drew ?_))); (case side2 => exact (Kd.R_reads' HO_3.out).2.1); rintro e w71 ⟨rfl, hb⟩; refine ⟨_, rfl, ?_⟩; have n0_ := Aside0.mk (Kd.R_below (by (with_reducible repeat (first | apply Kd.R_alloc | apply Kd.R_drewN | apply Kd.R_drew)); exact HO_3.out) hb); have n1_ := Aside0.mk (below_step (by repeat (first | (with_reducible first | exact HB.out | apply below_alloc | apply pw_below_drewN | apply below_drew1) | exact HB.out)) hb); clear HO_3; clear HB; have HO_3 := n0_; have HB := n1_; clear n0_ n1_; (try clear hb); (try clear hb2); (try clear hk); (try clear hi)) | ((with_reducible refine gate_callee (f := 19) rfl ?_); refine goesL_ (some 173) rfl rfl Try.func19 (by kernel_rfl) rfl #[.slice Ao14 t379.length co14, .int .i64 t380, .int .i64 t391] rfl (by (try simp only [List.map_toArray, List.map_cons, List.map_nil]); first | done | rfl | (simp only [List.length_drop, List.length_take]; rfl)) ?_; (with_reducible refine (impl_CountLoadings.calls kj56 _ _ t379 t380 t391 t414 t415 _ ?side1 ?side2 A63.out).mono ?_); (case side1 => repeat (first | exact (Kd.R_reads' HO_3.out).2.2 | (with_reducible refine Kd.C_alloc ?_ _) | (with_reducible refine Kd.C_drewN ?_ _) | (with_reducible refine Kd.C_drew ?_))); (case side2 => exact (Kd.R_reads' HO_3.out).2.1); rintro e w72 ⟨rfl, hb⟩; refine ⟨_, rfl, ?_⟩; have n0_ := Aside0.mk (Kd.R_below (by (with_reducible repeat (first | apply Kd.R_alloc | apply Kd.R_drewN | apply Kd.R_drew)); exact HO_3.out) hb); have n1_ := Aside0.mk (below_step (by repeat (first | (with_reducible first | exact HB.out | apply below_alloc | apply pw_below_drewN | apply below_drew1) | exact HB.out)) hb); clear HO_3; clear HB; have HO_3 := n0_; have HB := n1_; clear n0_ n1_; (try clear hb); (try clear hb2); (try clear hk); (try clear hi)))
                              go_ret
                              exact ⟨by first | rfl | (simp [errW_none, errW_some] <;> rfl) | (simp [*, errW_none, errW_some] <;> rfl), by repeat (first | (with_reducible first | exact HB.out | apply below_alloc | apply pw_below_drewN | apply below_drew1) | exact HB.out)⟩
                          · rw [if_neg c64] at H
                            have c64b0 : (t413 == 0) = false := beq_eq_false_iff_ne.mpr c64
                            have c64b1 : (t413 != 0) = true := bne_iff_ne.mpr c64
                            obtain rfl := Option.some.inj H
                            go_wp2_with (first | ((with_reducible refine gate_callee (f := 19) rfl ?_); refine goesL_ (some 166) rfl rfl Try.func19 (by kernel_rfl) rfl #[.slice Ao14 t379.length co14, .int .i64 t380, .int .i64 (wrap64 (t391 - 1))] rfl (by (try simp only [List.map_toArray, List.map_cons, List.map_nil]); first | done | rfl | (simp only [List.length_drop, List.length_take]; rfl)) ?_; (with_reducible refine (impl_CountLoadings.calls kj56 _ _ t379 t380 (wrap64 (t391 - 1)) t412 t413 _ ?side1 ?side2 A62.out).mono ?_); (case side1 => repeat (first | exact (Kd.R_reads' HO_3.out).2.2 | (with_reducible refine Kd.C_alloc ?_ _) | (with_reducible refine Kd.C_drewN ?_ _) | (with_reducible refine Kd.C_drew ?_))); (case side2 => exact (Kd.R_reads' HO_3.out).2.1); rintro e w73 ⟨rfl, hb⟩; refine ⟨_, rfl, ?_⟩; have n0_ := Aside0.mk (Kd.R_below (by (with_reducible repeat (first | apply Kd.R_alloc | apply Kd.R_drewN | apply Kd.R_drew)); exact HO_3.out) hb); have n1_ := Aside0.mk (below_step (by repeat (first | (with_reducible first | exact HB.out | apply below_alloc | apply pw_below_drewN | apply below_drew1) | exact HB.out)) hb); clear HO_3; clear HB; have HO_3 := n0_; have HB := n1_; clear n0_ n1_; (try clear hb); (try clear hb2); (try clear hk); (try clear hi)) | ((with_reducible refine gate_callee (f := 19) rfl ?_); refine goesL_ (some 173) rfl rfl Try.func19 (by kernel_rfl) rfl #[.slice Ao14 t379.length co14, .int .i64 t380, .int .i64 t391] rfl (by (try simp only [List.map_toArray, List.map_cons, List.map_nil]); first | done | rfl | (simp only [List.length_drop, List.length_take]; rfl)) ?_; (with_reducible refine (impl_CountLoadings.calls kj56 _ _ t379 t380 t391 t414 t415 _ ?side1 ?side2 A63.out).mono ?_); (case side1 => repeat (first | exact (Kd.R_reads' HO_3.out).2.2 | (with_reducible refine Kd.C_alloc ?_ _) | (with_reducible refine Kd.C_drewN ?_ _) | (with_reducible refine Kd.C_drew ?_))); (case side2 => exact (Kd.R_reads' HO_3.out).2.1); rintro e w74 ⟨rfl, hb⟩; refine ⟨_, rfl, ?_⟩; have n0_ := Aside0.mk (Kd.R_below (by (with_reducible repeat (first | apply Kd.R_alloc | apply Kd.R_drewN | apply Kd.R_drew)); exact HO_3.out) hb); have n1_ := Aside0.mk (below_step (by repeat (first | (with_reducible first | exact HB.out | apply below_alloc | apply pw_below_drewN | apply below_drew1) | exact HB.out)) hb); clear HO_3; clear HB; have HO_3 := n0_; have HB := n1_; clear n0_ n1_; (try clear hb); (try clear hb2); (try clear hk); (try clear hi)))
                            go_ret
                            exact ⟨by first | rfl | (simp [errW_none, errW_some] <;> rfl) | (simp [*, errW_none, errW_some] <;> rfl), by repeat (first | (with_reducible first | exact HB.out | apply below_alloc | apply pw_below_drewN | apply below_drew1) | exact HB.out)⟩
          · rw [if_neg c49] at H
            have c49b0 : (t386 == 0) = false := beq_eq_false_iff_ne.mpr c49
            have c49b1 : (t386 != 0) = true := bne_iff_ne.mpr c49
            obtain rfl := Option.some.inj H
            go_wp2
            go_ret
            exact ⟨by first | rfl | (simp [errW_none, errW_some] <;> rfl) | (simp [*, errW_none, errW_some] <;> rfl), by repeat (first | (with_reducible first | exact HB.out | apply below_alloc | apply pw_below_drewN | apply below_drew1) | exact HB.out)⟩

/-- THE ONE PURE STATEMENT of laws_FnLoadings: yours. -/
def laws_FnLoadings.Pure : Prop := ∀ (l0 : List Int), l0.length ≤ maxLen → l0.length * 1 ≤ 140737488351232 → (∀ x ∈ l0, (Lit.int .u8 x).wf = true) → ∃ k, laws_FnLoadings.f k l0 = some true
theorem laws_FnLoadings.walk (P : laws_FnLoadings.Pure) (a0 : Option Addr) (len0 cap0 : Nat) (z0 : List Int) (w : World) (w0 : (a0 = none ∧ len0 = 0 ∧ cap0 = 0 ∧ z0 = []) ∨ ∃ x, a0 = some x ∧ len0 ≤ cap0 ∧ cap0 ≤ maxLen ∧ z0.length = cap0 ∧ (∀ i, i < z0.length → w.cell? (x.add i) = some (.int .u8 (z0.getD i 0))) ∧ ∀ n ∈ z0, (Lit.int .u8 n).wf = true) (y0 : len0 * 1 ≤ 140737488351232) :
    Calls Try.prog 11 #[.slice a0 len0 cap0] w fun e w' => e = .returned (.bool true) ∧ Below w.heap.size w w' := by
  obtain ⟨l0, rfl, hr0, hm0, hw0, hc0⟩ := ReadsInt.ofRowC w0
  obtain ⟨k, h⟩ := P l0 hm0 y0 hw0
  refine (laws_FnLoadings.calls k _ _ l0 true w (Kd.C_of_reads (d := (0 : Int)) (h1 := fun _ => rfl) hr0) hc0 h).mono ?_
  rintro e w' ⟨rfl, hd⟩
  exact ⟨rfl, hd⟩

end Go.Proofs.Ytjnfimhckeihhaa.PFnLoadings
