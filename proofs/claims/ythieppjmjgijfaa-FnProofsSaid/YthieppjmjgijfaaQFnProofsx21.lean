/- Functions and contracts that FnProofs reaches (22 of 22). -/
import Derived.Test.YthieppjmjgijfaaQFnProofsx20
namespace Go.Proofs.Ythieppjmjgijfaa.PFnProofs
open Go.RowKit Go.Proofs.YthieppjmjgijfaaW.PrintWords Go.Proofs.YthieppjmjgijfaaW.PrintLast Go.Proofs.YthieppjmjgijfaaW.PrintMore
attribute [local go_sem] max2_int min2_int max_two min_two max_three min_three max_four min_four   -- for this text's walks alone
attribute [local go_sem high] eqA23
set_option linter.unusedVariables false
set_option linter.unusedSimpArgs false

/-! ### laws_FnProofs: function 5 -/
mutual
def laws_FnProofs.j0 : Nat → List Int → List Int → List Int → Int → Int → Int → Bool → Int → Int → Int → Int → Int → Bool → Bool → Bool → Bool → Bool → Bool → Int → Bool → Bool → Bool → Bool → Bool → Int → Option (Bool)
 | 0, _, _, _, _, _, _, _, _, _, _, _, _, _, _, _, _, _, _, _, _, _, _, _, _, _ => none
 | k + 1, x0, x3, x4, x5, x6, x7, x11, x12, x15, x17, x21, x22, x139, x719000, x719001, x719002, x719003, x719004, x719005, x734000, x734001, x734002, x734003, x734004, x734005 => if x139 = true then (none) else (if x17 = 0 then ((impl_NumberOf.f x719000 x719001 x719002 x719003 x719004 x719005).bind fun bt738 => (if bt738.2 = 0 then (if bt738.1 = x15 then ((impl_IsSound.f x719000 x719001 x719002 x719003 x719004 x719005).bind fun t740 => (if t740 = true then (laws_FnProofs.j1 k x0 x3 x4 x5 x6 x7 x11 x12 x21 x22 x734000 x734001 x734002 x734003 x734004 x734005) else (none))) else (none)) else (none))) else (laws_FnProofs.j1 k x0 x3 x4 x5 x6 x7 x11 x12 x21 x22 x734000 x734001 x734002 x734003 x734004 x734005))
def laws_FnProofs.j1 : Nat → List Int → List Int → List Int → Int → Int → Int → Bool → Int → Int → Int → Bool → Bool → Bool → Bool → Bool → Int → Option (Bool)
 | 0, _, _, _, _, _, _, _, _, _, _, _, _, _, _, _, _ => none
 | k + 1, x0, x3, x4, x5, x6, x7, x11, x12, x21, x22, x734000, x734001, x734002, x734003, x734004, x734005 => if x22 = 0 then ((impl_ControllerWith.f x21).bind fun bt741 => (if bt741.2.2.2.2.2.2 = 0 then (if (!(bt741.1 == x734000) || (!(bt741.2.1 == x734001) || (!(bt741.2.2.1 == x734002) || (!(bt741.2.2.2.1 == x734003) || (!(bt741.2.2.2.2.1 == x734004) || (!(bt741.2.2.2.2.2.1 == x734005))))))) = true then (none) else (laws_FnProofs.j2 k x0 x3 x4 x5 x6 x7 x11 x12)) else (none))) else (laws_FnProofs.j2 k x0 x3 x4 x5 x6 x7 x11 x12)
def laws_FnProofs.j2 : Nat → List Int → List Int → List Int → Int → Int → Int → Bool → Int → Option (Bool)
 | 0, _, _, _, _, _, _, _, _ => none
 | k + 1, x0, x3, x4, x5, x6, x7, x11, x12 => if x12 = 0 then (if (x11 != (x7 == 4)) = true then (none) else (if x11 = true then (laws_FnProofs.j3 k x0 x3 x4 x5 x6 x7 (decide ((x3.length : Int) > 0))) else (laws_FnProofs.j3 k x0 x3 x4 x5 x6 x7 false))) else (some (x7 == x12))
def laws_FnProofs.j3 : Nat → List Int → List Int → List Int → Int → Int → Int → Bool → Option (Bool)
 | 0, _, _, _, _, _, _, _ => none
 | k + 1, x0, x3, x4, x5, x6, x7, x187 => if x187 = true then ((laws_roll.f k x0 2501).bind fun bt749 => ((laws_dice_below.f bt749.1 bt749.2.1 bt749.2.2 (x3.length : Int)).bind fun bt753 => (if 0 ≤ bt753.1 then (if bt753.1 < (x3.length : Int) then ((impl_ControllerWith.f (rd x3 bt753.1)).bind fun bt757 => ((impl_ReachedFrom.f k bt757.1 bt757.2.1 bt757.2.2.1 bt757.2.2.2.1 bt757.2.2.2.2.1 bt757.2.2.2.2.2.1 x4).bind fun bt765 => (if bt757.2.2.2.2.2.2 = 0 then (laws_FnProofs.j4 k x3 x4 x5 x6 x7 bt765.1 (bt765.2 != 0)) else (none)))) else (none)) else (none)))) else (laws_FnProofs.j6 k x3 x4 x5 x6 x7)
def laws_FnProofs.j6 : Nat → List Int → List Int → Int → Int → Int → Option (Bool)
 | 0, _, _, _, _, _ => none
 | k + 1, x3, x4, x5, x6, x7 => if x7 = 0 then ((impl_ControllerWith.f x5).bind fun bt771 => ((impl_GiveInput.f bt771.1 bt771.2.1 bt771.2.2.1 bt771.2.2.2.1 bt771.2.2.2.2.1 bt771.2.2.2.2.2.1 x6).bind fun bt779 => ((impl_NumberOf.f bt779.1 bt779.2.1 bt779.2.2.1 bt779.2.2.2.1 bt779.2.2.2.2.1 bt779.2.2.2.2.2.1).bind fun bt787 => (if bt771.2.2.2.2.2.2 = 0 then (if bt779.2.2.2.2.2.2 = 0 then (if bt787.2 = 0 then ((laws_hasInt.f k x3 x5).bind fun t789 => (if t789 = true then ((laws_hasInt.f k x3 bt787.1).bind fun t790 => (if t790 = true then (none) else ((laws_hasInt.f k x4 x6).bind fun t791 => (some t791)))) else (none))) else (none)) else (none)) else (none))))) else (some true)
def laws_FnProofs.j4 : Nat → List Int → List Int → Int → Int → Int → List Int → Bool → Option (Bool)
 | 0, _, _, _, _, _, _, _ => none
 | k + 1, x3, x4, x5, x6, x7, x31, x211 => if x211 = true then (none) else (laws_FnProofs.l0 k x3 x4 x5 x6 x7 x31 0)
def laws_FnProofs.l0 : Nat → List Int → List Int → Int → Int → Int → List Int → Int → Option (Bool)
 | 0, _, _, _, _, _, _, _ => none
 | k + 1, x3, x4, x5, x6, x7, x31, x33 => if x33 < (x31.length : Int) then (if 0 ≤ x33 then ((laws_hasInt.f k x3 (rd x31 x33)).bind fun t770 => (if t770 = true then (laws_FnProofs.l0 k x3 x4 x5 x6 x7 x31 (wrap64 (x33 + 1))) else (none))) else (none)) else (laws_FnProofs.j6 k x3 x4 x5 x6 x7)
end
def laws_FnProofs.f (k : Nat) (l0 : List Int) : Option (Bool) := (laws_big.f l0).bind fun t693 => (if t693 = true then (some true) else ((spec_DrawFirstLeak.f k l0).bind fun bt694 => ((impl_FirstLeak.f k bt694.1 bt694.2).bind fun bt700 => ((spec_FirstLeak.f k bt694.1 bt694.2).bind fun bt703 => ((impl_AreClosed.f k bt694.1 bt694.2).bind fun bt706 => ((spec_AreClosed.f k bt694.1 bt694.2).bind fun bt708 => ((spec_DrawControllerWith.f k l0).bind fun t710 => ((impl_ControllerWith.f t710).bind fun bt711 => ((spec_ControllerWith.f t710).bind fun bt719 => ((spec_DrawNumberOf.f k l0).bind fun bt727 => ((impl_NumberOf.f bt727.1 bt727.2.1 bt727.2.2.1 bt727.2.2.2.1 bt727.2.2.2.2.1 bt727.2.2.2.2.2).bind fun bt734 => ((spec_NumberOf.f k bt727.1 bt727.2.1 bt727.2.2.1 bt727.2.2.2.1 bt727.2.2.2.2.1 bt727.2.2.2.2.2).bind fun bt736 => (if bt700.2.2 = bt703.2.2 then (if bt700.1 = bt703.1 then (if bt700.2.1 = bt703.2.1 then (if bt706.2 = bt708.2 then (if (bt706.1 != bt708.1) = true then (none) else (if bt711.2.2.2.2.2.2 = bt719.2.2.2.2.2.2 then (if (!(bt711.1 == bt719.1) || (!(bt711.2.1 == bt719.2.1) || (!(bt711.2.2.1 == bt719.2.2.1) || (!(bt711.2.2.2.1 == bt719.2.2.2.1) || (!(bt711.2.2.2.2.1 == bt719.2.2.2.2.1) || (!(bt711.2.2.2.2.2.1 == bt719.2.2.2.2.2.1))))))) = true then (none) else (if bt734.2 = bt736.2 then (laws_FnProofs.j0 k l0 bt694.1 bt694.2 bt700.1 bt700.2.1 bt700.2.2 bt706.1 bt706.2 t710 bt711.2.2.2.2.2.2 bt734.1 bt734.2 (bt734.1 != bt736.1) bt711.1 bt711.2.1 bt711.2.2.1 bt711.2.2.2.1 bt711.2.2.2.2.1 bt711.2.2.2.2.2.1 bt727.1 bt727.2.1 bt727.2.2.1 bt727.2.2.2.1 bt727.2.2.2.2.1 bt727.2.2.2.2.2) else (none))) else (none))) else (none)) else (none)) else (none)) else (none))))))))))))))
theorem laws_FnProofs.mono_l : ∀ k, (∀ y0 y1 y2 y3 y4 y5 y6 y7 y8 y9 y10 y11 y12 y13 y14 y15 y16 y17 y18 y19 y20 y21 y22 y23 y24, LeO (laws_FnProofs.j0 k y0 y1 y2 y3 y4 y5 y6 y7 y8 y9 y10 y11 y12 y13 y14 y15 y16 y17 y18 y19 y20 y21 y22 y23 y24) (laws_FnProofs.j0 (k + 1) y0 y1 y2 y3 y4 y5 y6 y7 y8 y9 y10 y11 y12 y13 y14 y15 y16 y17 y18 y19 y20 y21 y22 y23 y24)) ∧ (∀ y0 y1 y2 y3 y4 y5 y6 y7 y8 y9 y10 y11 y12 y13 y14 y15, LeO (laws_FnProofs.j1 k y0 y1 y2 y3 y4 y5 y6 y7 y8 y9 y10 y11 y12 y13 y14 y15) (laws_FnProofs.j1 (k + 1) y0 y1 y2 y3 y4 y5 y6 y7 y8 y9 y10 y11 y12 y13 y14 y15)) ∧ (∀ y0 y1 y2 y3 y4 y5 y6 y7, LeO (laws_FnProofs.j2 k y0 y1 y2 y3 y4 y5 y6 y7) (laws_FnProofs.j2 (k + 1) y0 y1 y2 y3 y4 y5 y6 y7)) ∧ (∀ y0 y1 y2 y3 y4 y5 y6, LeO (laws_FnProofs.j3 k y0 y1 y2 y3 y4 y5 y6) (laws_FnProofs.j3 (k + 1) y0 y1 y2 y3 y4 y5 y6)) ∧ (∀ y0 y1 y2 y3 y4, LeO (laws_FnProofs.j6 k y0 y1 y2 y3 y4) (laws_FnProofs.j6 (k + 1) y0 y1 y2 y3 y4)) ∧ (∀ y0 y1 y2 y3 y4 y5 y6, LeO (laws_FnProofs.j4 k y0 y1 y2 y3 y4 y5 y6) (laws_FnProofs.j4 (k + 1) y0 y1 y2 y3 y4 y5 y6)) ∧ (∀ y0 y1 y2 y3 y4 y5 y6, LeO (laws_FnProofs.l0 k y0 y1 y2 y3 y4 y5 y6) (laws_FnProofs.l0 (k + 1) y0 y1 y2 y3 y4 y5 y6))
 | 0 => ⟨fun _ _ _ _ _ _ _ _ _ _ _ _ _ _ _ _ _ _ _ _ _ _ _ _ _ r h => by simp [laws_FnProofs.j0] at h, fun _ _ _ _ _ _ _ _ _ _ _ _ _ _ _ _ r h => by simp [laws_FnProofs.j1] at h, fun _ _ _ _ _ _ _ _ r h => by simp [laws_FnProofs.j2] at h, fun _ _ _ _ _ _ _ r h => by simp [laws_FnProofs.j3] at h, fun _ _ _ _ _ r h => by simp [laws_FnProofs.j6] at h, fun _ _ _ _ _ _ _ r h => by simp [laws_FnProofs.j4] at h, fun _ _ _ _ _ _ _ r h => by simp [laws_FnProofs.l0] at h⟩
 | k + 1 => by
  obtain ⟨ih0, ih1, ih2, ih3, ih4, ih5, ih6⟩ := laws_FnProofs.mono_l k
  refine ⟨?_, ?_, ?_, ?_, ?_, ?_, ?_⟩ <;> intros <;> (first | unfold laws_FnProofs.j0 | unfold laws_FnProofs.j1 | unfold laws_FnProofs.j2 | unfold laws_FnProofs.j3 | unfold laws_FnProofs.j6 | unfold laws_FnProofs.j4 | unfold laws_FnProofs.l0) <;> (repeat' first | (with_reducible exact ih0 _ _ _ _ _ _ _ _ _ _ _ _ _ _ _ _ _ _ _ _ _ _ _ _ _) | (with_reducible exact ih1 _ _ _ _ _ _ _ _ _ _ _ _ _ _ _ _) | (with_reducible exact ih2 _ _ _ _ _ _ _ _) | (with_reducible exact ih3 _ _ _ _ _ _ _) | (with_reducible exact ih4 _ _ _ _ _) | (with_reducible exact ih5 _ _ _ _ _ _ _) | (with_reducible exact ih6 _ _ _ _ _ _ _) | (with_reducible exact impl_AreClosed.mono _ _ _) | (with_reducible exact impl_FirstLeak.mono _ _ _) | (with_reducible exact impl_ReachedFrom.mono _ _ _ _ _ _ _ _) | (with_reducible exact laws_hasInt.mono _ _ _) | (with_reducible exact laws_roll.mono _ _ _) | (with_reducible exact spec_AreClosed.mono _ _ _) | (with_reducible exact spec_DrawControllerWith.mono _ _) | (with_reducible exact spec_DrawFirstLeak.mono _ _) | (with_reducible exact spec_DrawNumberOf.mono _ _) | (with_reducible exact spec_FirstLeak.mono _ _ _) | (with_reducible exact spec_NumberOf.mono _ _ _ _ _ _ _) | (with_reducible exact LeO.refl _) | (with_reducible exact LeO.none _) | (with_reducible refine LeO.ite ?_ ?_) | (with_reducible refine LeO.bind ?_ (fun _ => ?_)) | exact ih0 _ _ _ _ _ _ _ _ _ _ _ _ _ _ _ _ _ _ _ _ _ _ _ _ _ | exact ih1 _ _ _ _ _ _ _ _ _ _ _ _ _ _ _ _ | exact ih2 _ _ _ _ _ _ _ _ | exact ih3 _ _ _ _ _ _ _ | exact ih4 _ _ _ _ _ | exact ih5 _ _ _ _ _ _ _ | exact ih6 _ _ _ _ _ _ _ | exact impl_AreClosed.mono _ _ _ | exact impl_FirstLeak.mono _ _ _ | exact impl_ReachedFrom.mono _ _ _ _ _ _ _ _ | exact laws_hasInt.mono _ _ _ | exact laws_roll.mono _ _ _ | exact spec_AreClosed.mono _ _ _ | exact spec_DrawControllerWith.mono _ _ | exact spec_DrawFirstLeak.mono _ _ | exact spec_DrawNumberOf.mono _ _ | exact spec_FirstLeak.mono _ _ _ | exact spec_NumberOf.mono _ _ _ _ _ _ _ | exact LeO.none _ | refine LeO.ite ?_ ?_ | refine LeO.bind ?_ (fun _ => ?_))
theorem laws_FnProofs.mono : ∀ a0 k, LeO (laws_FnProofs.f k a0) (laws_FnProofs.f (k + 1) a0) := by
 intro a0 k
 obtain ⟨ih0, ih1, ih2, ih3, ih4, ih5, ih6⟩ := laws_FnProofs.mono_l k
 unfold laws_FnProofs.f
 repeat' first
   | (with_reducible exact ih0 _ _ _ _ _ _ _ _ _ _ _ _ _ _ _ _ _ _ _ _ _ _ _ _ _)
   | (with_reducible exact ih1 _ _ _ _ _ _ _ _ _ _ _ _ _ _ _ _)
   | (with_reducible exact ih2 _ _ _ _ _ _ _ _)
   | (with_reducible exact ih3 _ _ _ _ _ _ _)
   | (with_reducible exact ih4 _ _ _ _ _)
   | (with_reducible exact ih5 _ _ _ _ _ _ _)
   | (with_reducible exact ih6 _ _ _ _ _ _ _)
   | (with_reducible exact impl_AreClosed.mono _ _ _)
   | (with_reducible exact impl_FirstLeak.mono _ _ _)
   | (with_reducible exact impl_ReachedFrom.mono _ _ _ _ _ _ _ _)
   | (with_reducible exact laws_hasInt.mono _ _ _)
   | (with_reducible exact laws_roll.mono _ _ _)
   | (with_reducible exact spec_AreClosed.mono _ _ _)
   | (with_reducible exact spec_DrawControllerWith.mono _ _)
   | (with_reducible exact spec_DrawFirstLeak.mono _ _)
   | (with_reducible exact spec_DrawNumberOf.mono _ _)
   | (with_reducible exact spec_FirstLeak.mono _ _ _)
   | (with_reducible exact spec_NumberOf.mono _ _ _ _ _ _ _)
   | (with_reducible exact LeO.refl _)
   | (with_reducible exact LeO.none _)
   | (with_reducible refine LeO.ite ?_ ?_)
   | (with_reducible refine LeO.bind ?_ (fun _ => ?_))
   | exact ih0 _ _ _ _ _ _ _ _ _ _ _ _ _ _ _ _ _ _ _ _ _ _ _ _ _
   | exact ih1 _ _ _ _ _ _ _ _ _ _ _ _ _ _ _ _
   | exact ih2 _ _ _ _ _ _ _ _
   | exact ih3 _ _ _ _ _ _ _
   | exact ih4 _ _ _ _ _
   | exact ih5 _ _ _ _ _ _ _
   | exact ih6 _ _ _ _ _ _ _
   | exact impl_AreClosed.mono _ _ _
   | exact impl_FirstLeak.mono _ _ _
   | exact impl_ReachedFrom.mono _ _ _ _ _ _ _ _
   | exact laws_hasInt.mono _ _ _
   | exact laws_roll.mono _ _ _
   | exact spec_AreClosed.mono _ _ _
   | exact spec_DrawControllerWith.mono _ _
   | exact spec_DrawFirstLeak.mono _ _
   | exact spec_DrawNumberOf.mono _ _
   | exact spec_FirstLeak.mono _ _ _
   | exact spec_NumberOf.mono _ _ _ _ _ _ _
   | exact LeO.none _
   | refine LeO.ite ?_ ?_
   | refine LeO.bind ?_ (fun _ => ?_)
/-- What is left of a proof at a place, as a proposition that the proof itself finds. -/
structure laws_FnProofs.Cut (p : Prop) : Prop where
  out : p
def laws_FnProofs.cutOf {g p : Prop} (h : laws_FnProofs.Cut p → g) : {q : Prop // q → g} := ⟨p, fun x => h ⟨x⟩⟩
set_option maxHeartbeats 40000000 in
set_option maxRecDepth 100000 in
def laws_FnProofs.cut1 : {p : Prop // p → (∀ (k : Nat) (A0 : Option Addr) (c0 : Nat) (l0 : List Int) (r : Bool) (w : World) (hr0 : Kd.C (Kd.int .u8) w A0 l0.length l0) (hc0 : l0.length ≤ c0) (h : laws_FnProofs.f k l0 = some r), Calls Try.prog 5 #[.slice A0 l0.length c0] w fun e w' => e = .returned (.bool r) ∧ Below w.heap.size w w')} := laws_FnProofs.cutOf (fun K_ => by
  intros k A0 c0 l0 r w hr0 hc0 h
  have hu23 := Try.underlying23
  have HR0 := jA hr0
  have HC0 := jA hc0
  clear hr0 hc0
  have HB := jA (Below.refl w.heap.size w)
  have H := h
  unfold laws_FnProofs.f at H
  clear h
  replace H := jC.mp H
  obtain ⟨t693, A20, H⟩ := H
  try dsimp only at H
  have A2 := jA A20
  clear A20
  by_cases c3 : t693 = true
  ·subst c3
   rw [if_pos rfl] at H
   obtain rfl := jN H
   go_enter Try.func5, Try.ntmps5
   go_wp2_with (first | ((with_reducible refine jG (f := 19) rfl ?_); refine zL (some 41) Try.func19 #[.slice A0 l0.length c0] ?_; (with_reducible refine (laws_big.calls _ _ l0 true _ ?side1 ?side2 A2.out).mono ?_); (case side1 => repeat (first | exact HR0.out | (with_reducible refine Kd.C_alloc ?_ _) | (with_reducible refine Kd.C_drewN ?_ _) | (with_reducible refine Kd.C_drew ?_))); (case side2 => exact HC0.out); rintro e w' ⟨rfl, ⟨nd, rfl⟩⟩; refine ⟨_, rfl, ?_⟩))
   go_ret
   exact ⟨ze, zb0 HB⟩
  ·replace c3 := Bool.eq_false_iff.mpr c3
   subst c3
   rw [if_neg zfalse] at H
   replace H := jC.mp H
   obtain ⟨⟨t694, t695⟩, A40, H⟩ := H
   try dsimp only at H
   have A4 := jA A40
   clear A40
   replace H := jC.mp H
   obtain ⟨⟨t700, t701, t702⟩, A50, H⟩ := H
   try dsimp only at H
   have A5 := jA A50
   clear A50
   replace H := jC.mp H
   obtain ⟨⟨t703, t704, t705⟩, A60, H⟩ := H
   try dsimp only at H
   have A6 := jA A60
   clear A60
   replace H := jC.mp H
   obtain ⟨⟨t706, t707⟩, A70, H⟩ := H
   try dsimp only at H
   have A7 := jA A70
   clear A70
   replace H := jC.mp H
   obtain ⟨⟨t708, t709⟩, A80, H⟩ := H
   try dsimp only at H
   have A8 := jA A80
   clear A80
   replace H := jC.mp H
   obtain ⟨t710, A90, H⟩ := H
   try dsimp only at H
   have A9 := jA A90
   clear A90
   replace H := jC.mp H
   obtain ⟨⟨t711, t712, t713, t714, t715, t716, t717⟩, A100, H⟩ := H
   try dsimp only at H
   have A10 := jA A100
   clear A100
   replace H := jC.mp H
   obtain ⟨⟨t719, t720, t721, t722, t723, t724, t725⟩, A110, H⟩ := H
   try dsimp only at H
   have A11 := jA A110
   clear A110
   replace H := jC.mp H
   obtain ⟨⟨t727, t728, t729, t730, t731, t732⟩, A120, H⟩ := H
   try dsimp only at H
   have A12 := jA A120
   clear A120
   replace H := jC.mp H
   obtain ⟨⟨t734, t735⟩, A130, H⟩ := H
   try dsimp only at H
   have A13 := jA A130
   clear A130
   replace H := jC.mp H
   obtain ⟨⟨t736, t737⟩, A140, H⟩ := H
   try dsimp only at H
   have A14 := jA A140
   clear A140
   have HC15 := jA H
   clear H
   go_enter Try.func5, Try.ntmps5
   go_upto_region 14 with (first | ((with_reducible refine jG (f := 19) rfl ?_); refine zL (some 41) Try.func19 #[.slice A0 l0.length c0] ?_; (with_reducible refine (laws_big.calls _ _ l0 false _ ?side1 ?side2 A2.out).mono ?_); (case side1 => repeat (first | exact HR0.out | (with_reducible refine Kd.C_alloc ?_ _) | (with_reducible refine Kd.C_drewN ?_ _) | (with_reducible refine Kd.C_drew ?_))); (case side2 => exact HC0.out); rintro e w' ⟨rfl, ⟨nd, rfl⟩⟩; refine ⟨_, rfl, ?_⟩) | ((with_reducible refine jG (f := 20) rfl ?_); refine zL (some 44) Try.func20 #[.slice A0 l0.length c0] ?_; (with_reducible refine (spec_DrawFirstLeak.calls k _ _ l0 t694 t695 _ ?side1 ?side2 A4.out).mono ?_); (case side1 => repeat (first | exact HR0.out | (with_reducible refine Kd.C_alloc ?_ _) | (with_reducible refine Kd.C_drewN ?_ _) | (with_reducible refine Kd.C_drew ?_))); (case side2 => exact HC0.out); rintro e w16 ⟨v696, v698, rfl, ho0, ho1, hb⟩; refine ⟨_, rfl, ?_⟩; have HO697 := jA (jX ho0 (jT (zb0 HB))); have HO699 := jA (jX ho1 (jT (zb0 HB))); replace HB := zS0 HB hb; (try clear hb); (try clear hb2); (try clear hk); (try clear hi); (try clear ho0); (try clear ho1); obtain ⟨Ao17, co17, eo17⟩ := Kd.R_slice HO697.out; subst eo17; obtain ⟨Ao18, co18, eo18⟩ := Kd.R_slice HO699.out; subst eo18) | ((with_reducible refine jG (f := 21) rfl ?_); refine zL (some 50) Try.func21 #[.slice Ao17 t694.length co17, .slice Ao18 t695.length co18] ?_; (with_reducible refine (impl_FirstLeak.calls k _ _ t694 _ _ t695 t700 t701 t702 _ ?side1 ?side2 ?side3 ?side4 A5.out).mono ?_); (case side1 => exact zv HO697); (case side2 => exact (jO HO697.out).2.1); (case side3 => exact zv HO699); (case side4 => exact (jO HO699.out).2.1); rintro e w19 ⟨rfl, hb⟩; refine ⟨_, rfl, ?_⟩; replace HO697 := jA (jP (zo HO697) hb); replace HO699 := jA (jP (zo HO699) hb); replace HB := zS0 HB hb; clear hb) | ((with_reducible refine jG (f := 22) rfl ?_); refine zL (some 57) Try.func22 #[.slice Ao17 t694.length co17, .slice Ao18 t695.length co18] ?_; (with_reducible refine (spec_FirstLeak.calls k _ _ t694 _ _ t695 t703 t704 t705 _ ?side1 ?side2 ?side3 ?side4 A6.out).mono ?_); (case side1 => exact zv HO697); (case side2 => exact (jO HO697.out).2.1); (case side3 => exact zv HO699); (case side4 => exact (jO HO699.out).2.1); rintro e w20 ⟨rfl, hb⟩; refine ⟨_, rfl, ?_⟩; replace HO697 := jA (jP (zo HO697) hb); replace HO699 := jA (jP (zo HO699) hb); replace HB := zS0 HB hb; clear hb) | ((with_reducible refine jG (f := 23) rfl ?_); refine zL (some 64) Try.func23 #[.slice Ao17 t694.length co17, .slice Ao18 t695.length co18] ?_; (with_reducible refine (impl_AreClosed.calls k _ _ t694 _ _ t695 t706 t707 _ ?side1 ?side2 ?side3 ?side4 A7.out).mono ?_); (case side1 => exact zv HO697); (case side2 => exact (jO HO697.out).2.1); (case side3 => exact zv HO699); (case side4 => exact (jO HO699.out).2.1); rintro e w21 ⟨rfl, hb⟩; refine ⟨_, rfl, ?_⟩; replace HO697 := jA (jP (zo HO697) hb); replace HO699 := jA (jP (zo HO699) hb); replace HB := zS0 HB hb; clear hb) | ((with_reducible refine jG (f := 24) rfl ?_); refine zL (some 70) Try.func24 #[.slice Ao17 t694.length co17, .slice Ao18 t695.length co18] ?_; (with_reducible refine (spec_AreClosed.calls k _ _ t694 _ _ t695 t708 t709 _ ?side1 ?side2 ?side3 ?side4 A8.out).mono ?_); (case side1 => exact zv HO697); (case side2 => exact (jO HO697.out).2.1); (case side3 => exact zv HO699); (case side4 => exact (jO HO699.out).2.1); rintro e w22 ⟨rfl, hb⟩; refine ⟨_, rfl, ?_⟩; replace HO697 := jA (jP (zo HO697) hb); replace HO699 := jA (jP (zo HO699) hb); replace HB := zS0 HB hb; clear hb) | ((with_reducible refine jG (f := 25) rfl ?_); refine zL (some 74) Try.func25 #[.slice A0 l0.length c0] ?_; (with_reducible refine (spec_DrawControllerWith.calls k _ _ l0 t710 _ ?side1 ?side2 A9.out).mono ?_); (case side1 => exact zs HR0 HB); (case side2 => exact HC0.out); rintro e w23 ⟨rfl, hb⟩; refine ⟨_, rfl, ?_⟩; replace HO697 := jA (jP (zo HO697) hb); replace HO699 := jA (jP (zo HO699) hb); replace HB := zS0 HB hb; clear hb) | ((with_reducible refine jG (f := 14) rfl ?_); refine zL (some 77) Try.func14 #[.int .i64 t710] ?_; (with_reducible refine (impl_ControllerWith.calls t710 t711 t712 t713 t714 t715 t716 t717 _ A10.out).mono ?_); rintro e w24 ⟨rfl, hb⟩; refine ⟨_, rfl, ?_⟩; replace HO697 := jA (jP (zo HO697) hb); replace HO699 := jA (jP (zo HO699) hb); replace HB := zS0 HB hb; clear hb) | ((with_reducible refine jJ (N := 16) rfl ?_); (try (refine gate_guard (by rfl) ?_; dsimp only)); refine zE 16 #[.bool false, .bool false, .bool false, .bool false, .bool false, .int .i64 0] 23 ?_; intro gb718 hg w25 hbox hb; replace HO697 := jA (jP (zo HO697) hb); replace HO699 := jA (jP (zo HO699) hb); have BK718 := jA (hbox); have GW718 := zg0 hg HB; have GE718 := zg0 hg HB; replace HB := zS0 HB hb; clear hb hbox hg; have hcz26 := zc6 BK718) | ((with_reducible refine jG (f := 13) rfl ?_); refine zL (some 82) Try.func13 #[.int .i64 t710] ?_; (with_reducible refine (spec_ControllerWith.calls t710 t719 t720 t721 t722 t723 t724 t725 _ A11.out).mono ?_); rintro e w27 ⟨rfl, hb⟩; refine ⟨_, rfl, ?_⟩; replace HO697 := jA (jP (zU HO697 BK718) hb); replace HO699 := jA (jP (zU HO699 BK718) hb); replace BK718 := jA (jU (g := gb718) (o := .cells #[.bool t711, .bool t712, .bool t713, .bool t714, .bool t715, .int .i64 t716] 23 (0, 0)) (zP0 BK718) hb); replace HB := zS1 HB GE718 hb; clear hb) | ((with_reducible refine jJ (N := 18) rfl ?_); (try (refine gate_guard (by rfl) ?_; dsimp only)); refine zE 18 #[.bool false, .bool false, .bool false, .bool false, .bool false, .int .i64 0] 23 ?_; intro gb726 hg w28 hbox hb; replace HO697 := jA (jP (zo HO697) hb); replace HO699 := jA (jP (zo HO699) hb); have BK726 := jA (hbox); have GW726 := zg1 hg HB GE718; have GE726 := zg1 hg HB GE718; replace HB := zS1 HB GE718 hb; have NB718_726 := zn hg BK718; replace BK718 := zB BK718 hb; have NB726_718 := jA NB718_726.out.symm; clear hb hbox hg; have hnb29 := NB726_718.out; have hnc29 := NB718_726.out; have hcz30 := zc6 BK726) | ((with_reducible refine jG (f := 26) rfl ?_); refine zL (some 86) Try.func26 #[.slice A0 l0.length c0] ?_; (with_reducible refine (spec_DrawNumberOf.calls k _ _ l0 t727 t728 t729 t730 t731 t732 _ ?side1 ?side2 A12.out).mono ?_); (case side1 => exact Kd.C_below HR0.out (zb2 HB GE718 GE726)); (case side2 => exact HC0.out); rintro e w31 ⟨rfl, hb⟩; refine ⟨_, rfl, ?_⟩; replace HO697 := jA (jP (zU HO697 BK726) hb); replace HO699 := jA (jP (zU HO699 BK726) hb); replace BK718 := jA (jU (g := gb718) (o := .cells #[.bool t711, .bool t712, .bool t713, .bool t714, .bool t715, .int .i64 t716] 23 (0, 0)) (zQ1 BK718 NB718_726) hb); replace BK726 := jA (jU (g := gb726) (o := .cells #[.bool t719, .bool t720, .bool t721, .bool t722, .bool t723, .int .i64 t724] 23 (0, 0)) (zP0 BK726) hb); replace HB := zS2 HB GE718 GE726 hb; clear hb) | ((with_reducible refine jJ (N := 20) rfl ?_); (try (refine gate_guard (by rfl) ?_; dsimp only)); refine zE 20 #[.bool false, .bool false, .bool false, .bool false, .bool false, .int .i64 0] 23 ?_; intro gb733 hg w32 hbox hb; replace HO697 := jA (jP (zo HO697) hb); replace HO699 := jA (jP (zo HO699) hb); have BK733 := jA (hbox); have GW733 := zg2 hg HB GE718 GE726; have GE733 := zg2 hg HB GE718 GE726; replace HB := zS2 HB GE718 GE726 hb; have NB718_733 := zn hg BK718; replace BK718 := zB BK718 hb; have NB733_718 := jA NB718_733.out.symm; have NB726_733 := zn hg BK726; replace BK726 := zB BK726 hb; have NB733_726 := jA NB726_733.out.symm; clear hb hbox hg; have hnb33 := NB733_718.out; have hnc33 := NB718_733.out; have hnb34 := NB733_726.out; have hnc34 := NB726_733.out; have hcz35 := zc6 BK733) | ((with_reducible refine jG (f := 18) rfl ?_); refine zL (some 89) Try.func18 #[.agg #[.bool t727, .bool t728, .bool t729, .bool t730, .bool t731, .int .i64 t732]] ?_; (with_reducible refine (impl_NumberOf.calls t727 t728 t729 t730 t731 t732 t734 t735 _ A13.out).mono ?_); rintro e w36 ⟨rfl, hb⟩; refine ⟨_, rfl, ?_⟩; replace HO697 := jA (jP (zU HO697 BK733) hb); replace HO699 := jA (jP (zU HO699 BK733) hb); replace BK718 := jA (jU (g := gb718) (o := .cells #[.bool t711, .bool t712, .bool t713, .bool t714, .bool t715, .int .i64 t716] 23 (0, 0)) (zQ1 BK718 NB718_733) hb); replace BK726 := jA (jU (g := gb726) (o := .cells #[.bool t719, .bool t720, .bool t721, .bool t722, .bool t723, .int .i64 t724] 23 (0, 0)) (zQ1 BK726 NB726_733) hb); replace BK733 := jA (jU (g := gb733) (o := .cells #[.bool t727, .bool t728, .bool t729, .bool t730, .bool t731, .int .i64 t732] 23 (0, 0)) (zP0 BK733) hb); replace HB := zS3 HB GE718 GE726 GE733 hb; clear hb; have hcz37 := zc6 BK733) | ((with_reducible refine jG (f := 16) rfl ?_); refine zL (some 94) Try.func16 #[.agg #[.bool t727, .bool t728, .bool t729, .bool t730, .bool t731, .int .i64 t732]] ?_; (with_reducible refine (spec_NumberOf.calls k t727 t728 t729 t730 t731 t732 t736 t737 _ A14.out).mono ?_); rintro e w38 ⟨rfl, hb⟩; refine ⟨_, rfl, ?_⟩; replace HO697 := jA (jP (zo HO697) hb); replace HO699 := jA (jP (zo HO699) hb); replace BK718 := zB BK718 hb; replace BK726 := zB BK726 hb; replace BK733 := zB BK733 hb; replace HB := zS3 HB GE718 GE726 GE733 hb; clear hb))
   (try simp only [Act.put, jD, jE, jF])
   go_cut [139] (fun v139 wc => ∃ (kq : Nat) (x139_14 : Bool), v139 = .bool x139_14 ∧ Aside0 (laws_FnProofs.j0 kq l0 t694 t695 t700 t701 t702 t706 t707 t710 t717 t734 t735 x139_14 t711 t712 t713 t714 t715 t716 t727 t728 t729 t730 t731 t732 = some r) ∧ Aside0 (kq ≤ k) ∧ Aside0 (Kd.R (Kd.int .i64) 2 wc w.heap.size (fun k_ => some k_ ≠ ((.slice Ao18 t695.length co18) : Value).ownBlock) (.slice Ao17 t694.length co17) t694) ∧ Aside0 (Kd.R (Kd.int .i64) 2 wc w.heap.size (fun k_ => some k_ ≠ ((.slice Ao17 t694.length co17) : Value).ownBlock) (.slice Ao18 t695.length co18) t695) ∧ Aside0 (wc.heap[gb718]? = some (.cells #[.bool t711, .bool t712, .bool t713, .bool t714, .bool t715, .int .i64 t716] 23 (0, 0))) ∧ Aside0 (wc.heap[gb726]? = some (.cells #[.bool t719, .bool t720, .bool t721, .bool t722, .bool t723, .int .i64 t724] 23 (0, 0))) ∧ Aside0 (wc.heap[gb733]? = some (.cells #[.bool t727, .bool t728, .bool t729, .bool t730, .bool t731, .int .i64 t732] 23 (0, 0))) ∧ Aside0 (Below w.heap.size w wc))
   case first =>
    clear K_
    have H := HC15.out
    clear HC15
    by_cases c39 : t702 = t705
    ·rw [if_pos c39] at H
     have c39b0 : (t702 == t705) = true := beq_iff_eq.mpr c39
     have c39b1 : (t702 != t705) = false := bne_eq_false_iff_eq.mpr c39
     clear c39
     (first | rw [c39b0] | (simp only [i64_w, i32_w]; rw [c39b0]) | skip)
     by_cases c40 : t700 = t703
     ·rw [if_pos c40] at H
      have c40b0 : (t700 == t703) = true := beq_iff_eq.mpr c40
      have c40b1 : (t700 != t703) = false := bne_eq_false_iff_eq.mpr c40
      clear c40
      by_cases c41 : t701 = t704
      ·rw [if_pos c41] at H
       have c41b0 : (t701 == t704) = true := beq_iff_eq.mpr c41
       have c41b1 : (t701 != t704) = false := bne_eq_false_iff_eq.mpr c41
       clear c41
       by_cases c42 : t707 = t709
       ·rw [if_pos c42] at H
        have c42b0 : (t707 == t709) = true := beq_iff_eq.mpr c42
        have c42b1 : (t707 != t709) = false := bne_eq_false_iff_eq.mpr c42
        clear c42
        by_cases c43 : (t706 != t708) = true
        ·rw [if_pos c43] at H
         exact absurd H (by simp)
        ·rw [if_neg c43] at H
         have c43b0 : (t706 != t708) = false := by simpa using c43
         (try (have c43b1 : decide (t706 = t708) = true := by simpa using c43))
         (try (have c43b2 : (t706 == t708) = true := by simpa using c43))
         clear c43
         by_cases c44 : t717 = t725
         ·rw [if_pos c44] at H
          have c44b0 : (t717 == t725) = true := beq_iff_eq.mpr c44
          have c44b1 : (t717 != t725) = false := bne_eq_false_iff_eq.mpr c44
          clear c44
          by_cases c45 : (!(t711 == t719) || (!(t712 == t720) || (!(t713 == t721) || (!(t714 == t722) || (!(t715 == t723) || (!(t716 == t724))))))) = true
          ·rw [if_pos c45] at H
           exact absurd H (by simp)
          ·rw [if_neg c45] at H
           have c45b0 : (!(t711 == t719) || (!(t712 == t720) || (!(t713 == t721) || (!(t714 == t722) || (!(t715 == t723) || (!(t716 == t724))))))) = false := by simpa using c45
           clear c45
           by_cases c51 : t735 = t737
           ·rw [if_pos c51] at H
            have c51b0 : (t735 == t737) = true := beq_iff_eq.mpr c51
            have c51b1 : (t735 != t737) = false := bne_eq_false_iff_eq.mpr c51
            clear c51
            have H' := jA H
            clear H
            have hnb52 := NB718_726.out
            have hnc52 := NB726_718.out
            have hnb53 := NB718_733.out
            have hnc53 := NB733_718.out
            have hcz54 := zc6 BK718
            have hnb55 := NB726_733.out
            have hnc55 := NB733_726.out
            have hcz56 := zc6 BK726
            go_wp2
            go_meet
            case rel => exact ⟨_, ((t734 != t736)), zz, H', ⟨by first | omega | exact Nat.le_refl _⟩, ⟨zo HO697⟩, ⟨zo HO699⟩, ⟨zk BK718⟩, ⟨zk BK726⟩, ⟨zk BK733⟩, ⟨zb3 HB GE718 GE726 GE733⟩⟩
           ·rw [if_neg c51] at H
            exact absurd H (by simp)
         ·rw [if_neg c44] at H
          exact absurd H (by simp)
       ·rw [if_neg c42] at H
        exact absurd H (by simp)
      ·rw [if_neg c41] at H
       exact absurd H (by simp)
     ·rw [if_neg c40] at H
      exact absurd H (by simp)
    ·rw [if_neg c39] at H
     exact absurd H (by simp)
   case rest =>
    clear HC15
    try clear c1
    try clear c2
    try clear p2
    try clear c3
    try clear c4
    try clear c5
    try clear c6
    try clear c13
    try clear c14
    try clear c16
    try clear c18
    try clear c19
    try clear c20
    try clear c21
    try clear c22
    try clear c23
    try clear c24
    try clear c25
    try clear c26
    try clear c29
    try clear c33
    try clear c34
    try clear c39
    try clear c39b0
    try clear c39b1
    try clear c40
    try clear c40b0
    try clear c40b1
    try clear c41
    try clear c41b0
    try clear c41b1
    try clear c42
    try clear c42b0
    try clear c42b1
    try clear c43
    try clear c43b0
    try clear c43b1
    try clear c43b2
    try clear c44
    try clear c44b0
    try clear c44b1
    try clear c45
    try clear c45b0
    try clear c46
    try clear c47
    try clear c49
    try clear c51
    try clear c51b0
    try clear c51b1
    try clear c52
    try clear c53
    try clear c55
    try clear c57
    try clear c58
    try clear c60
    try clear hcz26
    try clear hcz30
    try clear hcz35
    try clear hcz37
    try clear hcz48_0
    try clear hcz48_1
    try clear hcz48_2
    try clear hcz48_3
    try clear hcz48_4
    try clear hcz48_5
    try clear hcz50_0
    try clear hcz50_1
    try clear hcz50_2
    try clear hcz50_3
    try clear hcz50_4
    try clear hcz50_5
    try clear hcz54
    try clear hcz56
    try clear hcz59_0
    try clear hcz59_1
    try clear hcz59_2
    try clear hcz59_3
    try clear hcz59_4
    try clear hcz59_5
    try clear hcz61_0
    try clear hcz61_1
    try clear hcz61_2
    try clear hcz61_3
    try clear hcz61_4
    try clear hcz61_5
    try clear hfz48_0
    try clear hfz48_1
    try clear hfz48_2
    try clear hfz48_3
    try clear hfz48_4
    try clear hfz48_5
    try clear hfz50_0
    try clear hfz50_1
    try clear hfz50_2
    try clear hfz50_3
    try clear hfz50_4
    try clear hfz50_5
    try clear hfz59_0
    try clear hfz59_1
    try clear hfz59_2
    try clear hfz59_3
    try clear hfz59_4
    try clear hfz59_5
    try clear hfz61_0
    try clear hfz61_1
    try clear hfz61_2
    try clear hfz61_3
    try clear hfz61_4
    try clear hfz61_5
    obtain ⟨kq, x139_14, rfl, HA, HJ14, HO_3, HO_4, BK718, BK726, BK733, HB⟩ := hcut
    cases kq with
    | zero => exact absurd HA.out (by simp [laws_FnProofs.j0])
    | succ kj14 =>
     have H := HA.out
     clear HA
     simp only [laws_FnProofs.j0] at H
     by_cases c62 : x139_14 = true
     ·subst c62
      have H1 : (none) = some r := by rw [if_pos rfl] at H; exact H
      exact absurd H1 (by simp)
     ·replace c62 := Bool.eq_false_iff.mpr c62
      subst c62
      rw [if_neg zfalse] at H
      have HC63 := jA H
      clear H
      go_upto_if 141 with (fail)
      go_cut [] (fun wc => ∃ (kq : Nat), Aside0 (laws_FnProofs.j1 kq l0 t694 t695 t700 t701 t702 t706 t707 t734 t735 t727 t728 t729 t730 t731 t732 = some r) ∧ Aside0 (kq ≤ kj14) ∧ Aside0 (Kd.R (Kd.int .i64) 2 wc w.heap.size (fun k_ => some k_ ≠ ((.slice Ao18 t695.length co18) : Value).ownBlock) (.slice Ao17 t694.length co17) t694) ∧ Aside0 (Kd.R (Kd.int .i64) 2 wc w.heap.size (fun k_ => some k_ ≠ ((.slice Ao17 t694.length co17) : Value).ownBlock) (.slice Ao18 t695.length co18) t695) ∧ Aside0 (wc.heap[gb718]? = some (.cells #[.bool t711, .bool t712, .bool t713, .bool t714, .bool t715, .int .i64 t716] 23 (0, 0))) ∧ Aside0 (wc.heap[gb726]? = some (.cells #[.bool t719, .bool t720, .bool t721, .bool t722, .bool t723, .int .i64 t724] 23 (0, 0))) ∧ Aside0 (wc.heap[gb733]? = some (.cells #[.bool t727, .bool t728, .bool t729, .bool t730, .bool t731, .int .i64 t732] 23 (0, 0))) ∧ Aside0 (Below w.heap.size w wc))
      case first =>
       clear K_
       have H := HC63.out
       clear HC63
       by_cases c64 : t717 = 0
       ·rw [if_pos c64] at H
        have c64b0 : (t717 == 0) = true := beq_iff_eq.mpr c64
        have c64b1 : (t717 != 0) = false := bne_eq_false_iff_eq.mpr c64
        clear c64
        (first | rw [c64b0] | (simp only [i64_w, i32_w]; rw [c64b0]) | skip)
        replace H := jC.mp H
        obtain ⟨⟨t738, t739⟩, A650, H⟩ := H
        try dsimp only at H
        have A65 := jA A650
        clear A650
        by_cases c66 : t739 = 0
        ·rw [if_pos c66] at H
         have c66b0 : (t739 == 0) = true := beq_iff_eq.mpr c66
         have c66b1 : (t739 != 0) = false := bne_eq_false_iff_eq.mpr c66
         clear c66
         by_cases c67 : t738 = t710
         ·rw [if_pos c67] at H
          have c67b0 : (t738 == t710) = true := beq_iff_eq.mpr c67
          have c67b1 : (t738 != t710) = false := bne_eq_false_iff_eq.mpr c67
          clear c67
          replace H := jC.mp H
          obtain ⟨t740, A680, H⟩ := H
          try dsimp only at H
          have A68 := jA A680
          clear A680
          by_cases c69 : t740 = true
          ·subst c69
           rw [if_pos rfl] at H
           have H' := jA H
           clear H
           have hnb70 := NB718_726.out
           have hnc70 := NB726_718.out
           have hnb71 := NB718_733.out
           have hnc71 := NB733_718.out
           have hcz72 := zc6 BK718
           go_wp2_with (first | ((with_reducible refine jG (f := 18) rfl ?_); refine zL (some 144) Try.func18 #[.agg #[.bool t711, .bool t712, .bool t713, .bool t714, .bool t715, .int .i64 t716]] ?_; (with_reducible refine (impl_NumberOf.calls t711 t712 t713 t714 t715 t716 t738 t739 _ A65.out).mono ?_); rintro e w73 ⟨rfl, hb⟩; refine ⟨_, rfl, ?_⟩; replace HO_3 := jA (jP (zo HO_3) hb); replace HO_4 := jA (jP (zo HO_4) hb); replace BK718 := zB BK718 hb; replace BK726 := zB BK726 hb; replace BK733 := zB BK733 hb; replace HB := zS3 HB GE718 GE726 GE733 hb; clear hb; have hcz74 := zc6 BK718) | (go_at_call 27; (with_reducible refine (impl_IsSound.calls t711 t712 t713 t714 t715 t716 true _ A68.out).mono ?_); rintro e w75 ⟨rfl, hb⟩; replace HO_3 := jA (jP (zo HO_3) hb); replace HO_4 := jA (jP (zo HO_4) hb); replace BK718 := zB BK718 hb; replace BK726 := zB BK726 hb; replace BK733 := zB BK733 hb; replace HB := zS3 HB GE718 GE726 GE733 hb; (try clear hb); (try clear hb2); (try clear hk); (try clear hi)))
           go_meet
           case rel => exact ⟨_, H', ⟨by have := HJ14.out; first | omega | exact Nat.le_refl _⟩, ⟨zo HO_3⟩, ⟨zo HO_4⟩, ⟨zk BK718⟩, ⟨zk BK726⟩, ⟨zk BK733⟩, ⟨zb3 HB GE718 GE726 GE733⟩⟩
          ·replace c69 := Bool.eq_false_iff.mpr c69
           subst c69
           have H1 : (none) = some r := by rw [if_neg (show ¬ (false = true) by decide)] at H; exact H
           exact absurd H1 (by simp)
         ·rw [if_neg c67] at H
          exact absurd H (by simp)
        ·rw [if_neg c66] at H
         exact absurd H (by simp)
       ·rw [if_neg c64] at H
        have c64b0 : (t717 == 0) = false := beq_eq_false_iff_ne.mpr c64
        have c64b1 : (t717 != 0) = true := bne_iff_ne.mpr c64
        (first | rw [c64b0] | (simp only [i64_w, i32_w]; rw [c64b0]) | skip)
        have H' := jA H
        clear H
        go_wp2
        go_meet
        case rel => exact ⟨_, H', ⟨by have := HJ14.out; first | omega | exact Nat.le_refl _⟩, ⟨zo HO_3⟩, ⟨zo HO_4⟩, ⟨zk BK718⟩, ⟨zk BK726⟩, ⟨zk BK733⟩, ⟨zb3 HB GE718 GE726 GE733⟩⟩
      case rest =>
       clear HC63
       try clear c1
       try clear c2
       try clear p2
       try clear c3
       try clear c4
       try clear c5
       try clear c6
       try clear c7
       try clear c8
       try clear c13
       try clear c14
       try clear c16
       try clear c18
       try clear c19
       try clear c20
       try clear c21
       try clear c22
       try clear c23
       try clear c24
       try clear c25
       try clear c26
       try clear c29
       try clear c33
       try clear c34
       try clear c39
       try clear c39b0
       try clear c39b1
       try clear c40
       try clear c40b0
       try clear c40b1
       try clear c41
       try clear c41b0
       try clear c41b1
       try clear c42
       try clear c42b0
       try clear c42b1
       try clear c43
       try clear c43b0
       try clear c43b1
       try clear c43b2
       try clear c44
       try clear c44b0
       try clear c44b1
       try clear c45
       try clear c45b0
       try clear c46
       try clear c47
       try clear c49
       try clear c51
       try clear c51b0
       try clear c51b1
       try clear c52
       try clear c53
       try clear c55
       try clear c57
       try clear c58
       try clear c60
       try clear c62
       try clear c64
       try clear c64b0
       try clear c64b1
       try clear c66
       try clear c66b0
       try clear c66b1
       try clear c67
       try clear c67b0
       try clear c67b1
       try clear c69
       try clear c70
       try clear c71
       try clear c76
       try clear c77
       try clear c82
       try clear c83
       try clear c86
       try clear c87
       try clear hcz26
       try clear hcz30
       try clear hcz35
       try clear hcz37
       try clear hcz48_0
       try clear hcz48_1
       try clear hcz48_2
       try clear hcz48_3
       try clear hcz48_4
       try clear hcz48_5
       try clear hcz50_0
       try clear hcz50_1
       try clear hcz50_2
       try clear hcz50_3
       try clear hcz50_4
       try clear hcz50_5
       try clear hcz54
       try clear hcz56
       try clear hcz59_0
       try clear hcz59_1
       try clear hcz59_2
       try clear hcz59_3
       try clear hcz59_4
       try clear hcz59_5
       try clear hcz61_0
       try clear hcz61_1
       try clear hcz61_2
       try clear hcz61_3
       try clear hcz61_4
       try clear hcz61_5
       try clear hcz72
       try clear hcz74
       try clear hcz78_0
       try clear hcz78_1
       try clear hcz78_2
       try clear hcz78_3
       try clear hcz78_4
       try clear hcz78_5
       try clear hcz80_0
       try clear hcz80_1
       try clear hcz80_2
       try clear hcz80_3
       try clear hcz80_4
       try clear hcz80_5
       try clear hcz84_0
       try clear hcz84_1
       try clear hcz84_2
       try clear hcz84_3
       try clear hcz84_4
       try clear hcz84_5
       try clear hcz88_0
       try clear hcz88_1
       try clear hcz88_2
       try clear hcz88_3
       try clear hcz88_4
       try clear hcz88_5
       try clear hfz48_0
       try clear hfz48_1
       try clear hfz48_2
       try clear hfz48_3
       try clear hfz48_4
       try clear hfz48_5
       try clear hfz50_0
       try clear hfz50_1
       try clear hfz50_2
       try clear hfz50_3
       try clear hfz50_4
       try clear hfz50_5
       try clear hfz59_0
       try clear hfz59_1
       try clear hfz59_2
       try clear hfz59_3
       try clear hfz59_4
       try clear hfz59_5
       try clear hfz61_0
       try clear hfz61_1
       try clear hfz61_2
       try clear hfz61_3
       try clear hfz61_4
       try clear hfz61_5
       try clear hfz78_0
       try clear hfz78_1
       try clear hfz78_2
       try clear hfz78_3
       try clear hfz78_4
       try clear hfz78_5
       try clear hfz80_0
       try clear hfz80_1
       try clear hfz80_2
       try clear hfz80_3
       try clear hfz80_4
       try clear hfz80_5
       try clear hfz84_0
       try clear hfz84_1
       try clear hfz84_2
       try clear hfz84_3
       try clear hfz84_4
       try clear hfz84_5
       try clear hfz88_0
       try clear hfz88_1
       try clear hfz88_2
       try clear hfz88_3
       try clear hfz88_4
       try clear hfz88_5
       try clear p2
       obtain ⟨kq, HA, HJ62, HO_3, HO_4, BK718, BK726, BK733, HB⟩ := hcut
       rename_i ia0 ia1 ia2 ia3 ia4 ia5 ia6 ia7 ia8 ia9 ia10 ia11 ia12 ia13 ia14 ia15 ia16 ia17 ia18 ia19 ia20 ia21 ia22 ia23 ia24 ia25 ia26 ia27 ia28 ia29 ia30 ia31 ia32 ia33 ia34 ia35 ia36 ia37 ia38 ia39 ia40 ia41 ia42 ia43 ia44 ia45 ia46 ia47 ia48 ia49 ia50 ia51 ia52 ia53 ia54 ia55 ia56 ia57 ia58 ia59 ia60 ia61 ia62 ia63 ia64 ia65 ia66 ia67 ia68 ia69 ia70 ia71 ia72 ia73 ia74 ia75 ia76 ia77 ia78 ia79 ia80 ia81 ia82 ia83 ia84 ia85 ia86 ia87 ia88 ia89 ia90 ia91 ia92 ia93 ia94 ia95 ia96 ia97 ia98 ia99 ia100 ia101 ia102 ia103 ia104 ia105 ia106 ia107 ia108 ia109 ia110 ia111 ia112 ia113 ia114 ia115 ia116 ia117 ia118 ia119 ia120 ia121 ia122 ia123 ia124 ia125 ia126 ia127 ia128 ia129 ia130 ia131 ia132 ia133 ia134 ia135 ia136 ia137 ia138 ia139 ia140 ia141 ia142 ia143 ia144 ia145 ia146 ia147 ia148 ia149 ia150 ia151 ia152 ia153 ia154 ia155 ia156 ia157 ia158 ia159 ia160 ia161 ia162 ia163 ia164 ia165 ia166 ia167 ia168 ia169 ia170 ia171 ia172 ia173 ia174 ia175 ia176 ia177 ia178 ia179 ia180 ia181 ia182 ia183 ia184 ia185 ia186 ia187 ia188 ia189 ia190 ia191 ia192 ia193 ia194 ia195 ia196 ia197 ia198 ia199 ia200 ia201 ia202 ia203 ia204 ia205 ia206 ia207 ia208 ia209 ia210 ia211 ia212 ia213 ia214 ia215 ia216 ia217 ia218 ia219 ia220 ia221 ia222 ia223 ia224 ia225 ia226 ia227 ia228 ia229 ia230 ia231 ia232 ia233 ia234 ia235 ia236 ia237 ia238 ia239 ia240 ia241 ia242
       clear ia1 ia2 ia3 ia4 ia5 ia6 ia7 ia8 ia9 ia10 ia11 ia12 ia13 ia14 ia15 ia16 ia17 ia18 ia19 ia20 ia21 ia22 ia23 ia24 ia25 ia26 ia27 ia28 ia29 ia30 ia31 ia32 ia33 ia34 ia35 ia36 ia37 ia38 ia39 ia40 ia41 ia42 ia43 ia44 ia45 ia46 ia47 ia48 ia49 ia50 ia51 ia52 ia53 ia54 ia55 ia56 ia57 ia58 ia59 ia60 ia61 ia62 ia63 ia64 ia65 ia66 ia67 ia68 ia69 ia70 ia71 ia72 ia73 ia74 ia75 ia76 ia77 ia78 ia79 ia80 ia81 ia82 ia83 ia84 ia85 ia86 ia87 ia88 ia89 ia90 ia91 ia92 ia93 ia94 ia95 ia96 ia97 ia98 ia99 ia100 ia101 ia102 ia103 ia104 ia105 ia106 ia107 ia108 ia109 ia110 ia111 ia112 ia113 ia114 ia115 ia116 ia117 ia118 ia119 ia120 ia121 ia122 ia123 ia124 ia125 ia126 ia127 ia128 ia129 ia130 ia131 ia132 ia133 ia134 ia135 ia136 ia137 ia138 ia139 ia140 ia141 ia142 ia143 ia144 ia145 ia146 ia147 ia148 ia149 ia150 ia151 ia152 ia153 ia154 ia155 ia156 ia157 ia158 ia159 ia160 ia161 ia162 ia163 ia164 ia165 ia166 ia167 ia168 ia169 ia170 ia171 ia172 ia173 ia174 ia175 ia176 ia177 ia178 ia179 ia180 ia181 ia182 ia183 ia184 ia185 ia186 ia187 ia188 ia189 ia190 ia191 ia192 ia193 ia194 ia195 ia196 ia197 ia198 ia199 ia200 ia201 ia202 ia203 ia204 ia205 ia206 ia207 ia208 ia209 ia210 ia211 ia212 ia213 ia214 ia215 ia216 ia217 ia218 ia219 ia220 ia221 ia222 ia223 ia224 ia225 ia226 ia227 ia228 ia229 ia230 ia231 ia232 ia233 ia234 ia235 ia236 ia237 ia238 ia239 ia240
       revert k A0 c0 l0 r w hu23 HR0 HC0 A2 t694 t695 A4 t700 t701 t702 A5 t703 t704 t705 A6 t706 t707 A7 t708 t709 A8 t710 A9 t711 t712 t713 t714 t715 t716 t717 A10 t719 t720 t721 t722 t723 t724 t725 A11 t727 t728 t729 t730 t731 t732 A12 t734 t735 A13 t736 t737 A14 ia0 nd w16 Ao17 co17 Ao18 co18 w19 w20 w21 w22 w23 w24 gb718 w25 GW718 GE718 w27 gb726 w28 GW726 GE726 NB718_726 NB726_718 hnb29 hnc29 w31 gb733 w32 GW733 GE733 NB718_733 NB733_718 NB726_733 NB733_726 hnb33 hnc33 hnb34 hnc34 w36 w38 HO697 HO699 kj14 HJ14 ia241 ia242 wc u2 u25 u26 u40 u41 u42 u43 u44 u45 u46 u47 u48 u49 u50 u51 u52 u53 u54 u55 u56 u57 u58 u59 u60 u61 u62 u63 u64 u65 u66 u67 u68 u69 u70 u71 u72 u73 u74 u75 u76 u77 u78 u79 u80 u81 u82 u83 u84 u85 u86 u87 u88 u89 u90 u91 u92 u93 u94 u95 u96 u97 u98 u99 u100 u101 u102 u103 u104 u105 u106 u107 u108 u109 u110 u111 u112 u113 u114 u115 u116 u117 u118 u119 u120 u121 u122 u123 u124 u125 u126 u127 u128 u129 u130 u131 u132 u133 u134 u135 u136 u137 u138 u139 u140 u141 u142 u143 u144 u145 u146 u147 u148 u149 u150 u151 u152 u153 u154 u155 u156 u157 u158 u159 u160 u161 u162 u163 u164 u165 u166 u167 u168 u169 u170 u171 u172 u173 u174 u175 u176 u177 u178 u179 u180 u181 u182 u183 u184 u185 u186 u187 u188 u189 u190 u191 u192 u193 u194 u195 u196 u197 u198 u199 u200 u201 u202 u203 u204 u205 u206 u207 u208 u209 u210 u211 u212 u213 u214 u215 u216 u217 u218 u219 u220 u221 u222 u223 u224 u225 u226 u227 u228 u229 u230 u231 u232 u233 u234 u235 u236 u237 u238 u239 u240 u241 u242 u243 u244 u245 u246 u247 u248 u249 u250 u251 u252 u253 u254 u255 u256 u257 u258 u259 u260 u261 u262 u263 u264 u265 u266 u267 u268 kq HA HJ62 HO_3 HO_4 BK718 BK726 BK733 HB
       exact K_.out)
end Go.Proofs.Ythieppjmjgijfaa.PFnProofs
