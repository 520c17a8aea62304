/- Functions and contracts that FnReached reaches (22 of 22). -/
import Derived.Test.YthieppjmjgijfaaQFnReachedx20
namespace Go.Proofs.Ythieppjmjgijfaa.PFnReached
open Go.RowKit Go.Proofs.YthieppjmjgijfaaW.PrintWords Go.Proofs.YthieppjmjgijfaaW.PrintLast Go.Proofs.YthieppjmjgijfaaW.PrintMore
attribute [local go_sem] max2_int min2_int max_two min_two max_three min_three max_four min_four   -- for this text's walks alone
set_option linter.unusedVariables false
set_option linter.unusedSimpArgs false

/-! ### laws_FnReached: function 6 -/
mutual
def laws_FnReached.j0 : Nat → List Int → Int → List Int → Int → List Int → Int → Bool → List Int → Bool → Bool → Bool → Bool → Bool → Bool → Int → Option (Bool)
 | 0, _, _, _, _, _, _, _, _, _, _, _, _, _, _, _ => none
 | k + 1, x4, x5, x6, x7, x10, x11, x14, x18, x138, x717000, x717001, x717002, x717003, x717004, x717005 => if x138 = true then (none) else (if x11 = 0 then ((impl_AreClosed.f k x10 x4).bind fun bt748 => ((impl_NumberOf.f x717000 x717001 x717002 x717003 x717004 x717005).bind fun bt750 => (if bt748.2 = 0 then (if bt748.1 = true then (if bt750.2 = 0 then ((laws_hasInt.f k x10 bt750.1).bind fun t752 => (if t752 = true then ((laws_hasInt.f k x18 bt750.1).bind fun t753 => (laws_FnReached.j1 k x4 x5 x6 x7 x10 (x14 == t753) x717000 x717001 x717002 x717003 x717004 x717005)) else (none))) else (none)) else (none)) else (none)))) else (some true))
def laws_FnReached.j1 : Nat → List Int → Int → List Int → Int → List Int → Bool → Bool → Bool → Bool → Bool → Bool → Int → Option (Bool)
 | 0, _, _, _, _, _, _, _, _, _, _, _, _ => none
 | k + 1, x4, x5, x6, x7, x10, x174, x717000, x717001, x717002, x717003, x717004, x717005 => if x174 = true then (none) else (if x7 = 4 then ((laws_hasInt.f k x10 x5).bind fun t754 => (laws_FnReached.j2 k x4 x5 x6 x7 x10 t754 x717000 x717001 x717002 x717003 x717004 x717005)) else (laws_FnReached.j2 k x4 x5 x6 x7 x10 false x717000 x717001 x717002 x717003 x717004 x717005))
def laws_FnReached.j2 : Nat → List Int → Int → List Int → Int → List Int → Bool → Bool → Bool → Bool → Bool → Bool → Int → Option (Bool)
 | 0, _, _, _, _, _, _, _, _, _, _, _, _ => none
 | k + 1, x4, x5, x6, x7, x10, x181, x717000, x717001, x717002, x717003, x717004, x717005 => if x181 = true then (none) else (if x7 = 0 then (laws_FnReached.l0 k x4 x5 x6 x10 x717000 x717001 x717002 x717003 x717004 x717005) else (some true))
def laws_FnReached.l0 : Nat → List Int → Int → List Int → List Int → Bool → Bool → Bool → Bool → Bool → Int → Option (Bool)
 | 0, _, _, _, _, _, _, _, _, _, _ => none
 | k + 1, x4, x5, x6, x10, x717000, x717001, x717002, x717003, x717004, x717005 => if (x6.length : Int) > 0 then (if 0 < (x6.length : Int) then ((impl_GiveInput.f x717000 x717001 x717002 x717003 x717004 x717005 (rd x6 0)).bind fun bt759 => (if bt759.2.2.2.2.2.2 = 0 then ((laws_hasInt.f k x4 (rd x6 0)).bind fun t768 => (if t768 = true then (if 1 ≤ (x6.length : Int) then (laws_FnReached.l0 k x4 x5 (x6.drop (1 : Int).toNat) x10 bt759.1 bt759.2.1 bt759.2.2.1 bt759.2.2.2.1 bt759.2.2.2.2.1 bt759.2.2.2.2.2.1) else (none)) else (none))) else (none))) else (none)) else ((impl_NumberOf.f x717000 x717001 x717002 x717003 x717004 x717005).bind fun bt755 => (if bt755.2 = 0 then (if bt755.1 = x5 then ((laws_hasInt.f k x10 x5).bind fun t757 => (some t757)) else (none)) else (none)))
end
def laws_FnReached.f (k : Nat) (l0 : List Int) : Option (Bool) := (laws_big.f l0).bind fun t705 => (if t705 = true then (some true) else ((spec_DrawShortestInputs.f k l0).bind fun bt706 => ((impl_ShortestInputs.f k bt706.1 bt706.2.1 bt706.2.2.1 bt706.2.2.2.1 bt706.2.2.2.2.1 bt706.2.2.2.2.2.1 bt706.2.2.2.2.2.2.1 bt706.2.2.2.2.2.2.2).bind fun bt717 => ((spec_ShortestInputs.f k bt706.1 bt706.2.1 bt706.2.2.1 bt706.2.2.2.1 bt706.2.2.2.2.1 bt706.2.2.2.2.2.1 bt706.2.2.2.2.2.2.1 bt706.2.2.2.2.2.2.2).bind fun bt721 => ((impl_ReachedFrom.f k bt706.1 bt706.2.1 bt706.2.2.1 bt706.2.2.2.1 bt706.2.2.2.2.1 bt706.2.2.2.2.2.1 bt706.2.2.2.2.2.2.1).bind fun bt725 => ((spec_ReachedFrom.f k bt706.1 bt706.2.1 bt706.2.2.1 bt706.2.2.2.1 bt706.2.2.2.2.1 bt706.2.2.2.2.2.1 bt706.2.2.2.2.2.2.1).bind fun bt729 => ((impl_CanFire.f k bt706.1 bt706.2.1 bt706.2.2.1 bt706.2.2.2.1 bt706.2.2.2.2.1 bt706.2.2.2.2.2.1 bt706.2.2.2.2.2.2.1).bind fun bt733 => ((spec_CanFire.f k bt706.1 bt706.2.1 bt706.2.2.1 bt706.2.2.2.1 bt706.2.2.2.2.1 bt706.2.2.2.2.2.1 bt706.2.2.2.2.2.2.1).bind fun bt735 => ((impl_DeadEnds.f k bt706.1 bt706.2.1 bt706.2.2.1 bt706.2.2.2.1 bt706.2.2.2.2.1 bt706.2.2.2.2.2.1 bt706.2.2.2.2.2.2.1).bind fun bt737 => ((spec_DeadEnds.f k bt706.1 bt706.2.1 bt706.2.2.1 bt706.2.2.2.1 bt706.2.2.2.2.1 bt706.2.2.2.2.2.1 bt706.2.2.2.2.2.2.1).bind fun bt741 => (if bt717.2 = bt721.2 then ((laws_likeInts.f k bt717.1 bt721.1).bind fun t745 => (if t745 = true then (if bt725.2 = bt729.2 then ((laws_likeInts.f k bt725.1 bt729.1).bind fun t746 => (if t746 = true then (if bt733.2 = bt735.2 then (if (bt733.1 != bt735.1) = true then (none) else (if bt737.2 = bt741.2 then ((laws_likeInts.f k bt737.1 bt741.1).bind fun t747 => (if t747 = true then (if bt733.2 = bt725.2 then (laws_FnReached.j0 k bt706.2.2.2.2.2.2.1 bt706.2.2.2.2.2.2.2 bt717.1 bt717.2 bt725.1 bt725.2 bt733.1 bt737.1 (bt737.2 != bt725.2) bt706.1 bt706.2.1 bt706.2.2.1 bt706.2.2.2.1 bt706.2.2.2.2.1 bt706.2.2.2.2.2.1) else (none)) else (none))) else (none))) else (none)) else (none))) else (none)) else (none))) else (none))))))))))))
theorem laws_FnReached.mono_l : ∀ k, (∀ y0 y1 y2 y3 y4 y5 y6 y7 y8 y9 y10 y11 y12 y13 y14, LeO (laws_FnReached.j0 k y0 y1 y2 y3 y4 y5 y6 y7 y8 y9 y10 y11 y12 y13 y14) (laws_FnReached.j0 (k + 1) y0 y1 y2 y3 y4 y5 y6 y7 y8 y9 y10 y11 y12 y13 y14)) ∧ (∀ y0 y1 y2 y3 y4 y5 y6 y7 y8 y9 y10 y11, LeO (laws_FnReached.j1 k y0 y1 y2 y3 y4 y5 y6 y7 y8 y9 y10 y11) (laws_FnReached.j1 (k + 1) y0 y1 y2 y3 y4 y5 y6 y7 y8 y9 y10 y11)) ∧ (∀ y0 y1 y2 y3 y4 y5 y6 y7 y8 y9 y10 y11, LeO (laws_FnReached.j2 k y0 y1 y2 y3 y4 y5 y6 y7 y8 y9 y10 y11) (laws_FnReached.j2 (k + 1) y0 y1 y2 y3 y4 y5 y6 y7 y8 y9 y10 y11)) ∧ (∀ y0 y1 y2 y3 y4 y5 y6 y7 y8 y9, LeO (laws_FnReached.l0 k y0 y1 y2 y3 y4 y5 y6 y7 y8 y9) (laws_FnReached.l0 (k + 1) y0 y1 y2 y3 y4 y5 y6 y7 y8 y9))
 | 0 => ⟨fun _ _ _ _ _ _ _ _ _ _ _ _ _ _ _ r h => by simp [laws_FnReached.j0] at h, fun _ _ _ _ _ _ _ _ _ _ _ _ r h => by simp [laws_FnReached.j1] at h, fun _ _ _ _ _ _ _ _ _ _ _ _ r h => by simp [laws_FnReached.j2] at h, fun _ _ _ _ _ _ _ _ _ _ r h => by simp [laws_FnReached.l0] at h⟩
 | k + 1 => by
  obtain ⟨ih0, ih1, ih2, ih3⟩ := laws_FnReached.mono_l k
  refine ⟨?_, ?_, ?_, ?_⟩ <;> intros <;> (first | unfold laws_FnReached.j0 | unfold laws_FnReached.j1 | unfold laws_FnReached.j2 | unfold laws_FnReached.l0) <;> (repeat' first | (with_reducible exact ih0 _ _ _ _ _ _ _ _ _ _ _ _ _ _ _) | (with_reducible exact ih1 _ _ _ _ _ _ _ _ _ _ _ _) | (with_reducible exact ih2 _ _ _ _ _ _ _ _ _ _ _ _) | (with_reducible exact ih3 _ _ _ _ _ _ _ _ _ _) | (with_reducible exact impl_AreClosed.mono _ _ _) | (with_reducible exact impl_CanFire.mono _ _ _ _ _ _ _ _) | (with_reducible exact impl_DeadEnds.mono _ _ _ _ _ _ _ _) | (with_reducible exact impl_ReachedFrom.mono _ _ _ _ _ _ _ _) | (with_reducible exact impl_ShortestInputs.mono _ _ _ _ _ _ _ _ _) | (with_reducible exact laws_hasInt.mono _ _ _) | (with_reducible exact laws_likeInts.mono _ _ _) | (with_reducible exact spec_CanFire.mono _ _ _ _ _ _ _ _) | (with_reducible exact spec_DeadEnds.mono _ _ _ _ _ _ _ _) | (with_reducible exact spec_DrawShortestInputs.mono _ _) | (with_reducible exact spec_ReachedFrom.mono _ _ _ _ _ _ _ _) | (with_reducible exact spec_ShortestInputs.mono _ _ _ _ _ _ _ _ _) | (with_reducible exact LeO.refl _) | (with_reducible exact LeO.none _) | (with_reducible refine LeO.ite ?_ ?_) | (with_reducible refine LeO.bind ?_ (fun _ => ?_)) | exact ih0 _ _ _ _ _ _ _ _ _ _ _ _ _ _ _ | exact ih1 _ _ _ _ _ _ _ _ _ _ _ _ | exact ih2 _ _ _ _ _ _ _ _ _ _ _ _ | exact ih3 _ _ _ _ _ _ _ _ _ _ | exact impl_AreClosed.mono _ _ _ | exact impl_CanFire.mono _ _ _ _ _ _ _ _ | exact impl_DeadEnds.mono _ _ _ _ _ _ _ _ | exact impl_ReachedFrom.mono _ _ _ _ _ _ _ _ | exact impl_ShortestInputs.mono _ _ _ _ _ _ _ _ _ | exact laws_hasInt.mono _ _ _ | exact laws_likeInts.mono _ _ _ | exact spec_CanFire.mono _ _ _ _ _ _ _ _ | exact spec_DeadEnds.mono _ _ _ _ _ _ _ _ | exact spec_DrawShortestInputs.mono _ _ | exact spec_ReachedFrom.mono _ _ _ _ _ _ _ _ | exact spec_ShortestInputs.mono _ _ _ _ _ _ _ _ _ | exact LeO.none _ | refine LeO.ite ?_ ?_ | refine LeO.bind ?_ (fun _ => ?_))
theorem laws_FnReached.mono : ∀ a0 k, LeO (laws_FnReached.f k a0) (laws_FnReached.f (k + 1) a0) := by
 intro a0 k
 obtain ⟨ih0, ih1, ih2, ih3⟩ := laws_FnReached.mono_l k
 unfold laws_FnReached.f
 repeat' first
   | (with_reducible exact ih0 _ _ _ _ _ _ _ _ _ _ _ _ _ _ _)
   | (with_reducible exact ih1 _ _ _ _ _ _ _ _ _ _ _ _)
   | (with_reducible exact ih2 _ _ _ _ _ _ _ _ _ _ _ _)
   | (with_reducible exact ih3 _ _ _ _ _ _ _ _ _ _)
   | (with_reducible exact impl_AreClosed.mono _ _ _)
   | (with_reducible exact impl_CanFire.mono _ _ _ _ _ _ _ _)
   | (with_reducible exact impl_DeadEnds.mono _ _ _ _ _ _ _ _)
   | (with_reducible exact impl_ReachedFrom.mono _ _ _ _ _ _ _ _)
   | (with_reducible exact impl_ShortestInputs.mono _ _ _ _ _ _ _ _ _)
   | (with_reducible exact laws_hasInt.mono _ _ _)
   | (with_reducible exact laws_likeInts.mono _ _ _)
   | (with_reducible exact spec_CanFire.mono _ _ _ _ _ _ _ _)
   | (with_reducible exact spec_DeadEnds.mono _ _ _ _ _ _ _ _)
   | (with_reducible exact spec_DrawShortestInputs.mono _ _)
   | (with_reducible exact spec_ReachedFrom.mono _ _ _ _ _ _ _ _)
   | (with_reducible exact spec_ShortestInputs.mono _ _ _ _ _ _ _ _ _)
   | (with_reducible exact LeO.refl _)
   | (with_reducible exact LeO.none _)
   | (with_reducible refine LeO.ite ?_ ?_)
   | (with_reducible refine LeO.bind ?_ (fun _ => ?_))
   | exact ih0 _ _ _ _ _ _ _ _ _ _ _ _ _ _ _
   | exact ih1 _ _ _ _ _ _ _ _ _ _ _ _
   | exact ih2 _ _ _ _ _ _ _ _ _ _ _ _
   | exact ih3 _ _ _ _ _ _ _ _ _ _
   | exact impl_AreClosed.mono _ _ _
   | exact impl_CanFire.mono _ _ _ _ _ _ _ _
   | exact impl_DeadEnds.mono _ _ _ _ _ _ _ _
   | exact impl_ReachedFrom.mono _ _ _ _ _ _ _ _
   | exact impl_ShortestInputs.mono _ _ _ _ _ _ _ _ _
   | exact laws_hasInt.mono _ _ _
   | exact laws_likeInts.mono _ _ _
   | exact spec_CanFire.mono _ _ _ _ _ _ _ _
   | exact spec_DeadEnds.mono _ _ _ _ _ _ _ _
   | exact spec_DrawShortestInputs.mono _ _
   | exact spec_ReachedFrom.mono _ _ _ _ _ _ _ _
   | exact spec_ShortestInputs.mono _ _ _ _ _ _ _ _ _
   | exact LeO.none _
   | refine LeO.ite ?_ ?_
   | refine LeO.bind ?_ (fun _ => ?_)
def laws_FnReached.T25 : Bool × List (List Nat × List Nat) := (true, [([], []), ([], []), ([1], [1]), ([2], [2]), ([0, 3], [0, 3]), ([4], [4]), ([5], [5]), ([5], [5]), ([], []), ([8, 6, 4, 0, 1, 2, 3, 4, 5, 6, 8], [6, 8]), ([7, 9, 0, 1, 2, 3, 4, 5, 6, 7, 8, 9], [7])])
def laws_FnReached.B25 : List Nat := [0, 0, 2, 6, 15, 31, 63, 63, 0, 383, 1023]
theorem laws_FnReached.tab25 : rtab .any (opsOf Try.f6 25) = laws_FnReached.T25 := by kernel_rfl
theorem laws_FnReached.bits25 : waitsOk laws_FnReached.T25.2 laws_FnReached.B25 = true := by kernel_rfl
set_option maxHeartbeats 8000000 in
set_option maxRecDepth 100000 in
theorem laws_FnReached.calls (k : Nat) (A0 : Option Addr) (c0 : Nat) (l0 : List Int) (r : Bool) (w : World) (hr0 : Kd.C (Kd.int .u8) w A0 l0.length l0) (hc0 : l0.length ≤ c0) (h : laws_FnReached.f k l0 = some r) :
  Calls Try.prog 6 #[.slice A0 l0.length c0] w fun e w' => e = .returned (.bool r) ∧ Below w.heap.size w w' := by
 have hu23 := Try.underlying23
 have HR0 := jA hr0
 have HC0 := jA hc0
 clear hr0 hc0
 have HB := jA (Below.refl w.heap.size w)
 have H := h
 unfold laws_FnReached.f at H
 clear h
 replace H := jD.mp H
 obtain ⟨t705, A20, H⟩ := H
 try dsimp only at H
 have A2 := jA A20
 clear A20
 by_cases c3 : t705 = true
 ·subst c3
  rw [if_pos rfl] at H
  obtain rfl := jN H
  go_enter Try.func6, Try.ntmps6
  go_wp2_with (first | ((with_reducible refine jH (f := 19) rfl ?_); refine zL (some 31) Try.func19 #[.slice A0 l0.length c0] ?_; (with_reducible refine (laws_big.calls _ _ l0 true _ ?side1 ?side2 A2.out).mono ?_); (case side1 => repeat (first | exact HR0.out | (with_reducible refine Kd.C_alloc ?_ _) | (with_reducible refine Kd.C_drewN ?_ _) | (with_reducible refine Kd.C_drew ?_))); (case side2 => exact HC0.out); rintro e w' ⟨rfl, ⟨nd, rfl⟩⟩; refine ⟨_, rfl, ?_⟩))
  go_ret
  exact ⟨ze, zb0 HB⟩
 ·replace c3 := Bool.eq_false_iff.mpr c3
  subst c3
  rw [if_neg zfalse] at H
  replace H := jD.mp H
  obtain ⟨⟨t706, t707, t708, t709, t710, t711, t712, t715⟩, A40, H⟩ := H
  try dsimp only at H
  have A4 := jA A40
  clear A40
  replace H := jD.mp H
  obtain ⟨⟨t717, t720⟩, A50, H⟩ := H
  try dsimp only at H
  have A5 := jA A50
  clear A50
  replace H := jD.mp H
  obtain ⟨⟨t721, t724⟩, A60, H⟩ := H
  try dsimp only at H
  have A6 := jA A60
  clear A60
  replace H := jD.mp H
  obtain ⟨⟨t725, t728⟩, A70, H⟩ := H
  try dsimp only at H
  have A7 := jA A70
  clear A70
  replace H := jD.mp H
  obtain ⟨⟨t729, t732⟩, A80, H⟩ := H
  try dsimp only at H
  have A8 := jA A80
  clear A80
  replace H := jD.mp H
  obtain ⟨⟨t733, t734⟩, A90, H⟩ := H
  try dsimp only at H
  have A9 := jA A90
  clear A90
  replace H := jD.mp H
  obtain ⟨⟨t735, t736⟩, A100, H⟩ := H
  try dsimp only at H
  have A10 := jA A100
  clear A100
  replace H := jD.mp H
  obtain ⟨⟨t737, t740⟩, A110, H⟩ := H
  try dsimp only at H
  have A11 := jA A110
  clear A110
  replace H := jD.mp H
  obtain ⟨⟨t741, t744⟩, A120, H⟩ := H
  try dsimp only at H
  have A12 := jA A120
  clear A120
  have HC13 := jA H
  clear H
  go_enter Try.func6, Try.ntmps6
  go_upto_region 12 with (first | ((with_reducible refine jH (f := 19) rfl ?_); refine zL (some 31) Try.func19 #[.slice A0 l0.length c0] ?_; (with_reducible refine (laws_big.calls _ _ l0 false _ ?side1 ?side2 A2.out).mono ?_); (case side1 => repeat (first | exact HR0.out | (with_reducible refine Kd.C_alloc ?_ _) | (with_reducible refine Kd.C_drewN ?_ _) | (with_reducible refine Kd.C_drew ?_))); (case side2 => exact HC0.out); rintro e w' ⟨rfl, ⟨nd, rfl⟩⟩; refine ⟨_, rfl, ?_⟩) | ((with_reducible refine jH (f := 33) rfl ?_); refine zL (some 34) Try.func33 #[.slice A0 l0.length c0] ?_; (with_reducible refine (spec_DrawShortestInputs.calls k _ _ l0 t706 t707 t708 t709 t710 t711 t712 t715 _ ?side1 ?side2 A4.out).mono ?_); (case side1 => repeat (first | exact HR0.out | (with_reducible refine Kd.C_alloc ?_ _) | (with_reducible refine Kd.C_drewN ?_ _) | (with_reducible refine Kd.C_drew ?_))); (case side2 => exact HC0.out); rintro e w14 ⟨v713, rfl, ho0, hb⟩; refine ⟨_, rfl, ?_⟩; have HO714 := jA (jZ ho0 (jP (zb0 HB))); replace HB := zS0 HB hb; (try clear hb); (try clear hb2); (try clear hk); (try clear hi); (try clear ho0)) | ((with_reducible refine jK (N := 3) rfl ?_); refine zE 3 #[.bool false, .bool false, .bool false, .bool false, .bool false, .int .i64 0] 23 ?_; intro gb716 hg w15 hbox hb; replace HO714 := jA (jQ (zo HO714) hb); have BK716 := jA (hbox); have GW716 := zg0 hg HB; have GE716 := zg0 hg HB; replace HB := zS0 HB hb; clear hb hbox hg; have hcz16 := zc6 BK716; obtain ⟨Ao17, co17, eo17⟩ := Kd.R_slice HO714.out; subst eo17) | ((with_reducible refine jH (f := 34) rfl ?_); refine zL (some 42) Try.func34 #[.agg #[.bool t706, .bool t707, .bool t708, .bool t709, .bool t710, .int .i64 t711], .slice Ao17 t712.length co17, .int .i64 t715] ?_; (with_reducible refine (impl_ShortestInputs.calls k t706 t707 t708 t709 t710 t711 _ _ t712 t715 t717 t720 _ ?side1 ?side2 A5.out).mono ?_); (case side1 => refine (jO (e := 2) (base := w.heap.size) (ok := fun k_ => True) (n := t712.length) (c := co17) ?_).2.2; exact (zU HO714 BK716)); (case side2 => exact (jO HO714.out).2.1); rintro e w18 ⟨v718, rfl, ho0, hb⟩; refine ⟨_, rfl, ?_⟩; have HO719 := jA (jZ (Kd.R_new' ho0 (Kd.R_lt (zU HO714 BK716))) (jP (zb1 HB GE716))); replace HO714 := jA (Kd.R_elder' (zU HO714 BK716) (Kd.R_base ho0) hb); replace BK716 := jA (blk_below (g := gb716) (o := .cells #[.bool t706, .bool t707, .bool t708, .bool t709, .bool t710, .int .i64 t711] 23 (0, 0)) (zP0 BK716) hb); replace HB := zS1 HB GE716 hb; (try clear hb); (try clear hb2); (try clear hk); (try clear hi); (try clear ho0); have hcz19 := zc6 BK716) | ((with_reducible refine jH (f := 35) rfl ?_); refine zL (some 49) Try.func35 #[.agg #[.bool t706, .bool t707, .bool t708, .bool t709, .bool t710, .int .i64 t711], .slice Ao17 t712.length co17, .int .i64 t715] ?_; (with_reducible refine (spec_ShortestInputs.calls k t706 t707 t708 t709 t710 t711 _ _ t712 t715 t721 t724 _ ?side1 ?side2 A6.out).mono ?_); (case side1 => exact zv HO714); (case side2 => exact (jO HO714.out).2.1); rintro e w20 ⟨v722, rfl, ho0, hb⟩; refine ⟨_, rfl, ?_⟩; have HO723 := jA (Kd.V_lower (Kd.V_mono (ok' := fun k_ => some k_ ≠ (.slice Ao17 t712.length co17 : Value).ownBlock ∧ some k_ ≠ (v718 : Value).ownBlock ∧ k_ ≠ gb716) ho0 (fun k_ hk_ => ⟨(Kd.fresh' (Kd.R_lt (zo HO714)) k_ hk_), (Kd.fresh' (Kd.R_lt (zo HO719)) k_ hk_), (Kd.freshB (g := gb716) (o := .cells #[.bool t706, .bool t707, .bool t708, .bool t709, .bool t710, .int .i64 t711] 23 (0, 0)) (zk BK716) k_ hk_)⟩)) (jP (zb1 HB GE716))); replace HO714 := jA (jQ (zo HO714) hb); replace HO719 := jA (jQ (zo HO719) hb); replace BK716 := zB BK716 hb; replace HB := zS1 HB GE716 hb; (try clear hb); (try clear hb2); (try clear hk); (try clear hi); (try clear ho0); have hcz21 := zc6 BK716) | ((with_reducible refine jH (f := 30) rfl ?_); refine zL (some 55) Try.func30 #[.agg #[.bool t706, .bool t707, .bool t708, .bool t709, .bool t710, .int .i64 t711], .slice Ao17 t712.length co17] ?_; (with_reducible refine (impl_ReachedFrom.calls k t706 t707 t708 t709 t710 t711 _ _ t712 t725 t728 _ ?side1 ?side2 A7.out).mono ?_); (case side1 => exact zv HO714); (case side2 => exact (jO HO714.out).2.1); rintro e w22 ⟨v726, rfl, ho0, hb⟩; refine ⟨_, rfl, ?_⟩; replace HO723 := jA (Kd.V_elder' (by (with_reducible repeat (first | apply Kd.V_alloc | apply Kd.V_drewN | apply Kd.V_drew)); exact HO723.out) (Kd.R_base ho0) hb); have HO727 := jA (jZ (Kd.R_new' (Kd.R_new' ho0 (Kd.R_lt (zo HO714))) (Kd.R_lt (zo HO719))) (jP (zb1 HB GE716))); replace HO714 := jA (Kd.R_elder' (zo HO714) (Kd.R_base ho0) hb); replace HO719 := jA (Kd.R_elder' (zo HO719) (Kd.R_base ho0) hb); replace BK716 := zB BK716 hb; replace HB := zS1 HB GE716 hb; (try clear hb); (try clear hb2); (try clear hk); (try clear hi); (try clear ho0); have hcz23 := zc6 BK716) | ((with_reducible refine jH (f := 36) rfl ?_); refine zL (some 61) Try.func36 #[.agg #[.bool t706, .bool t707, .bool t708, .bool t709, .bool t710, .int .i64 t711], .slice Ao17 t712.length co17] ?_; (with_reducible refine (spec_ReachedFrom.calls k t706 t707 t708 t709 t710 t711 _ _ t712 t729 t732 _ ?side1 ?side2 A8.out).mono ?_); (case side1 => exact zv HO714); (case side2 => exact (jO HO714.out).2.1); rintro e w24 ⟨v730, rfl, ho0, hb⟩; refine ⟨_, rfl, ?_⟩; replace HO723 := jA (Kd.V_elder' (by (with_reducible repeat (first | apply Kd.V_alloc | apply Kd.V_drewN | apply Kd.V_drew)); exact HO723.out) (Kd.R_base ho0) hb); have HO731 := jA (jZ (Kd.R_new' (Kd.R_new' (Kd.R_new' ho0 (Kd.R_lt (zo HO714))) (Kd.R_lt (zo HO719))) (Kd.R_lt (zo HO727))) (jP (zb1 HB GE716))); replace HO714 := jA (Kd.R_elder' (zo HO714) (Kd.R_base ho0) hb); replace HO719 := jA (Kd.R_elder' (zo HO719) (Kd.R_base ho0) hb); replace HO727 := jA (Kd.R_elder' (zo HO727) (Kd.R_base ho0) hb); replace BK716 := zB BK716 hb; replace HB := zS1 HB GE716 hb; (try clear hb); (try clear hb2); (try clear hk); (try clear hi); (try clear ho0); have hcz25 := zc6 BK716) | ((with_reducible refine jH (f := 37) rfl ?_); refine zL (some 67) Try.func37 #[.agg #[.bool t706, .bool t707, .bool t708, .bool t709, .bool t710, .int .i64 t711], .slice Ao17 t712.length co17] ?_; (with_reducible refine (impl_CanFire.calls k t706 t707 t708 t709 t710 t711 _ _ t712 t733 t734 _ ?side1 ?side2 A9.out).mono ?_); (case side1 => exact zv HO714); (case side2 => exact (jO HO714.out).2.1); rintro e w26 ⟨rfl, hb⟩; refine ⟨_, rfl, ?_⟩; replace HO714 := jA (jQ (zo HO714) hb); replace HO719 := jA (jQ (zo HO719) hb); replace HO723 := jA (Kd.V_below (by (with_reducible repeat (first | apply Kd.V_alloc | apply Kd.V_drewN | apply Kd.V_drew)); exact HO723.out) hb); replace HO727 := jA (jQ (zo HO727) hb); replace HO731 := jA (jQ (zo HO731) hb); replace BK716 := zB BK716 hb; replace HB := zS1 HB GE716 hb; clear hb; have hcz27 := zc6 BK716) | ((with_reducible refine jH (f := 38) rfl ?_); refine zL (some 73) Try.func38 #[.agg #[.bool t706, .bool t707, .bool t708, .bool t709, .bool t710, .int .i64 t711], .slice Ao17 t712.length co17] ?_; (with_reducible refine (spec_CanFire.calls k t706 t707 t708 t709 t710 t711 _ _ t712 t735 t736 _ ?side1 ?side2 A10.out).mono ?_); (case side1 => exact zv HO714); (case side2 => exact (jO HO714.out).2.1); rintro e w28 ⟨rfl, hb⟩; refine ⟨_, rfl, ?_⟩; replace HO714 := jA (jQ (zo HO714) hb); replace HO719 := jA (jQ (zo HO719) hb); replace HO723 := jA (Kd.V_below (by (with_reducible repeat (first | apply Kd.V_alloc | apply Kd.V_drewN | apply Kd.V_drew)); exact HO723.out) hb); replace HO727 := jA (jQ (zo HO727) hb); replace HO731 := jA (jQ (zo HO731) hb); replace BK716 := zB BK716 hb; replace HB := zS1 HB GE716 hb; clear hb; have hcz29 := zc6 BK716) | ((with_reducible refine jH (f := 39) rfl ?_); refine zL (some 79) Try.func39 #[.agg #[.bool t706, .bool t707, .bool t708, .bool t709, .bool t710, .int .i64 t711], .slice Ao17 t712.length co17] ?_; (with_reducible refine (impl_DeadEnds.calls k t706 t707 t708 t709 t710 t711 _ _ t712 t737 t740 _ ?side1 ?side2 A11.out).mono ?_); (case side1 => exact zv HO714); (case side2 => exact (jO HO714.out).2.1); rintro e w30 ⟨v738, rfl, ho0, hb⟩; refine ⟨_, rfl, ?_⟩; replace HO723 := jA (Kd.V_elder' (by (with_reducible repeat (first | apply Kd.V_alloc | apply Kd.V_drewN | apply Kd.V_drew)); exact HO723.out) (Kd.R_base ho0) hb); have HO739 := jA (jZ (Kd.R_new' (Kd.R_new' (Kd.R_new' (Kd.R_new' ho0 (Kd.R_lt (zo HO714))) (Kd.R_lt (zo HO719))) (Kd.R_lt (zo HO727))) (Kd.R_lt (zo HO731))) (jP (zb1 HB GE716))); replace HO714 := jA (Kd.R_elder' (zo HO714) (Kd.R_base ho0) hb); replace HO719 := jA (Kd.R_elder' (zo HO719) (Kd.R_base ho0) hb); replace HO727 := jA (Kd.R_elder' (zo HO727) (Kd.R_base ho0) hb); replace HO731 := jA (Kd.R_elder' (zo HO731) (Kd.R_base ho0) hb); replace BK716 := zB BK716 hb; replace HB := zS1 HB GE716 hb; (try clear hb); (try clear hb2); (try clear hk); (try clear hi); (try clear ho0); have hcz31 := zc6 BK716) | ((with_reducible refine jH (f := 40) rfl ?_); refine zL (some 85) Try.func40 #[.agg #[.bool t706, .bool t707, .bool t708, .bool t709, .bool t710, .int .i64 t711], .slice Ao17 t712.length co17] ?_; (with_reducible refine (spec_DeadEnds.calls k t706 t707 t708 t709 t710 t711 _ _ t712 t741 t744 _ ?side1 ?side2 A12.out).mono ?_); (case side1 => exact zv HO714); (case side2 => exact (jO HO714.out).2.1); rintro e w32 ⟨v742, rfl, ho0, hb⟩; refine ⟨_, rfl, ?_⟩; replace HO723 := jA (Kd.V_elder' (by (with_reducible repeat (first | apply Kd.V_alloc | apply Kd.V_drewN | apply Kd.V_drew)); exact HO723.out) (Kd.R_base ho0) hb); have HO743 := jA (jZ (Kd.R_new' (Kd.R_new' (Kd.R_new' (Kd.R_new' (Kd.R_new' ho0 (Kd.R_lt (zo HO714))) (Kd.R_lt (zo HO719))) (Kd.R_lt (zo HO727))) (Kd.R_lt (zo HO731))) (Kd.R_lt (zo HO739))) (jP (zb1 HB GE716))); replace HO714 := jA (Kd.R_elder' (zo HO714) (Kd.R_base ho0) hb); replace HO719 := jA (Kd.R_elder' (zo HO719) (Kd.R_base ho0) hb); replace HO727 := jA (Kd.R_elder' (zo HO727) (Kd.R_base ho0) hb); replace HO731 := jA (Kd.R_elder' (zo HO731) (Kd.R_base ho0) hb); replace HO739 := jA (Kd.R_elder' (zo HO739) (Kd.R_base ho0) hb); replace BK716 := zB BK716 hb; replace HB := zS1 HB GE716 hb; (try clear hb); (try clear hb2); (try clear hk); (try clear hi); (try clear ho0)))
  (try simp only [Act.put, jC, jE, jF])
  go_cut [138] (fun v138 wc => ∃ (kq : Nat) (x138_12 : Bool), v138 = .bool x138_12 ∧ Aside0 (laws_FnReached.j0 kq t712 t715 t717 t720 t725 t728 t733 t737 x138_12 t706 t707 t708 t709 t710 t711 = some r) ∧ Aside0 (kq ≤ k) ∧ Aside0 (Kd.R (Kd.int .i64) 2 wc w.heap.size (fun k_ => some k_ ≠ (v718 : Value).ownBlock ∧ some k_ ≠ (v726 : Value).ownBlock ∧ some k_ ≠ (v738 : Value).ownBlock) (.slice Ao17 t712.length co17) t712) ∧ Aside0 (Kd.Q (Kd.int .i64) 2 wc w.heap.size (fun k_ => some k_ ≠ ((.slice Ao17 t712.length co17) : Value).ownBlock ∧ some k_ ≠ (v726 : Value).ownBlock ∧ some k_ ≠ (v738 : Value).ownBlock) v718 t717) ∧ Aside0 (Kd.R (Kd.int .i64) 2 wc w.heap.size (fun k_ => some k_ ≠ ((.slice Ao17 t712.length co17) : Value).ownBlock ∧ some k_ ≠ (v718 : Value).ownBlock ∧ some k_ ≠ (v738 : Value).ownBlock) v726 t725) ∧ Aside0 (Kd.R (Kd.int .i64) 2 wc w.heap.size (fun k_ => some k_ ≠ ((.slice Ao17 t712.length co17) : Value).ownBlock ∧ some k_ ≠ (v718 : Value).ownBlock ∧ some k_ ≠ (v726 : Value).ownBlock) v738 t737) ∧ Aside0 (wc.heap[gb716]? = some (.cells #[.bool t706, .bool t707, .bool t708, .bool t709, .bool t710, .int .i64 t711] 23 (0, 0))) ∧ Aside0 (Below w.heap.size w wc))
  case first =>
   have H := HC13.out
   clear HC13
   by_cases c33 : t720 = t724
   ·rw [if_pos c33] at H
    have c33b0 : (t720 == t724) = true := beq_iff_eq.mpr c33
    have c33b1 : (t720 != t724) = false := bne_eq_false_iff_eq.mpr c33
    clear c33
    (first | rw [c33b0] | (simp only [i64_w, i32_w]; rw [c33b0]) | skip)
    replace H := jD.mp H
    obtain ⟨t745, A340, H⟩ := H
    try dsimp only at H
    have A34 := jA A340
    clear A340
    by_cases c35 : t745 = true
    ·subst c35
     rw [if_pos rfl] at H
     by_cases c36 : t728 = t732
     ·rw [if_pos c36] at H
      have c36b0 : (t728 == t732) = true := beq_iff_eq.mpr c36
      have c36b1 : (t728 != t732) = false := bne_eq_false_iff_eq.mpr c36
      clear c36
      replace H := jD.mp H
      obtain ⟨t746, A370, H⟩ := H
      try dsimp only at H
      have A37 := jA A370
      clear A370
      by_cases c38 : t746 = true
      ·subst c38
       rw [if_pos rfl] at H
       by_cases c39 : t734 = t736
       ·rw [if_pos c39] at H
        have c39b0 : (t734 == t736) = true := beq_iff_eq.mpr c39
        have c39b1 : (t734 != t736) = false := bne_eq_false_iff_eq.mpr c39
        clear c39
        by_cases c40 : (t733 != t735) = true
        ·rw [if_pos c40] at H
         exact absurd H (by simp)
        ·rw [if_neg c40] at H
         have c40b0 : (t733 != t735) = false := by simpa using c40
         (try (have c40b1 : decide (t733 = t735) = true := by simpa using c40))
         (try (have c40b2 : (t733 == t735) = true := by simpa using c40))
         clear c40
         by_cases c45 : t740 = t744
         ·rw [if_pos c45] at H
          have c45b0 : (t740 == t744) = true := beq_iff_eq.mpr c45
          have c45b1 : (t740 != t744) = false := bne_eq_false_iff_eq.mpr c45
          clear c45
          replace H := jD.mp H
          obtain ⟨t747, A460, H⟩ := H
          try dsimp only at H
          have A46 := jA A460
          clear A460
          by_cases c47 : t747 = true
          ·subst c47
           rw [if_pos rfl] at H
           by_cases c48 : t734 = t728
           ·rw [if_pos c48] at H
            have c48b0 : (t734 == t728) = true := beq_iff_eq.mpr c48
            have c48b1 : (t734 != t728) = false := bne_eq_false_iff_eq.mpr c48
            clear c48
            have H' := jA H
            clear H
            obtain ⟨Ao49, co49, eo49⟩ := Kd.R_slice HO719.out
            subst eo49
            obtain ⟨Ao50, co50, eo50⟩ := Kd.V_slice HO723.out
            subst eo50
            go_wp2_with (first | (go_at_call 41; (with_reducible refine (laws_likeInts.calls k _ _ t717 _ _ t721 true _ ?side1 ?side2 ?side3 ?side4 A34.out).mono ?_); (case side1 => exact zv HO719); (case side2 => exact (jO HO719.out).2.1); (case side3 => repeat (first | exact (Kd.V_reads' HO723.out).2.2 | (with_reducible refine Kd.C_alloc ?_ _) | (with_reducible refine Kd.C_drewN ?_ _) | (with_reducible refine Kd.C_drew ?_))); (case side4 => exact (Kd.V_reads' HO723.out).2.1); rintro e w' ⟨rfl, ⟨nd, rfl⟩⟩; obtain ⟨Ao51, co51, eo51⟩ := Kd.R_slice HO727.out; subst eo51; obtain ⟨Ao52, co52, eo52⟩ := Kd.R_slice HO731.out; subst eo52) | (go_at_call 41; (with_reducible refine (laws_likeInts.calls k _ _ t725 _ _ t729 true _ ?side1 ?side2 ?side3 ?side4 A37.out).mono ?_); (case side1 => exact zv HO727); (case side2 => exact (jO HO727.out).2.1); (case side3 => exact zv HO731); (case side4 => exact (jO HO731.out).2.1); rintro e w' ⟨rfl, ⟨nd, rfl⟩⟩; obtain ⟨Ao53, co53, eo53⟩ := Kd.R_slice HO739.out; subst eo53; obtain ⟨Ao54, co54, eo54⟩ := Kd.R_slice HO743.out; subst eo54) | (go_at_call 41; (with_reducible refine (laws_likeInts.calls k _ _ t737 _ _ t741 true _ ?side1 ?side2 ?side3 ?side4 A46.out).mono ?_); (case side1 => exact zv HO739); (case side2 => exact (jO HO739.out).2.1); (case side3 => exact zv HO743); (case side4 => exact (jO HO743.out).2.1); rintro e w' ⟨rfl, ⟨nd, rfl⟩⟩))
            go_meet
            case rel => exact ⟨_, ((t740 != t728)), zz, H', ⟨by first | omega | exact Nat.le_refl _⟩, ⟨by (with_reducible repeat (first | apply jV | apply jU | apply jS)); exact Kd.R_mono HO714.out (fun _ hk => ⟨hk.1.1.1.1.2, ⟨hk.1.1.1.2, hk.1.2⟩⟩)⟩, ⟨Kd.Q_of_R (by (with_reducible repeat (first | apply jV | apply jU | apply jS)); exact Kd.R_mono HO719.out (fun _ hk => ⟨hk.1.1.1.1.2, ⟨hk.1.1.1.2, hk.1.2⟩⟩))⟩, ⟨by (with_reducible repeat (first | apply jV | apply jU | apply jS)); exact Kd.R_mono HO727.out (fun _ hk => ⟨hk.1.1.1.1.2, ⟨hk.1.1.1.2, hk.1.2⟩⟩)⟩, ⟨by (with_reducible repeat (first | apply jV | apply jU | apply jS)); exact Kd.R_mono HO739.out (fun _ hk => ⟨hk.1.1.1.1.2, ⟨hk.1.1.1.2, hk.1.1.2⟩⟩)⟩, ⟨zk BK716⟩, ⟨zb1 HB GE716⟩⟩
           ·rw [if_neg c48] at H
            exact absurd H (by simp)
          ·replace c47 := Bool.eq_false_iff.mpr c47
           subst c47
           have H1 : (none) = some r := by rw [if_neg (show ¬ (false = true) by decide)] at H; exact H
           exact absurd H1 (by simp)
         ·rw [if_neg c45] at H
          exact absurd H (by simp)
       ·rw [if_neg c39] at H
        exact absurd H (by simp)
      ·replace c38 := Bool.eq_false_iff.mpr c38
       subst c38
       have H1 : (none) = some r := by rw [if_neg (show ¬ (false = true) by decide)] at H; exact H
       exact absurd H1 (by simp)
     ·rw [if_neg c36] at H
      exact absurd H (by simp)
    ·replace c35 := Bool.eq_false_iff.mpr c35
     subst c35
     have H1 : (none) = some r := by rw [if_neg (show ¬ (false = true) by decide)] at H; exact H
     exact absurd H1 (by simp)
   ·rw [if_neg c33] at H
    exact absurd H (by simp)
  case rest =>
   clear HC13
   try clear c1
   try clear p2
   try clear c3
   try clear c4
   try clear c6
   try clear c19
   try clear c30
   try clear c33
   try clear c33b0
   try clear c33b1
   try clear c34
   try clear c35
   try clear c36
   try clear c36b0
   try clear c36b1
   try clear c37
   try clear c38
   try clear c39
   try clear c39b0
   try clear c39b1
   try clear c40
   try clear c40b0
   try clear c40b1
   try clear c40b2
   try clear c45
   try clear c45b0
   try clear c45b1
   try clear c47
   try clear c48
   try clear c48b0
   try clear c48b1
   try clear hcz16
   try clear hcz19
   try clear hcz21
   try clear hcz23
   try clear hcz25
   try clear hcz27
   try clear hcz29
   try clear hcz31
   obtain ⟨kq, x138_12, rfl, HA, HJ12, HO_4, HO_6, HO_10, HO_18, BK716, HB⟩ := hcut
   cases kq with
   | zero => exact absurd HA.out (by simp [laws_FnReached.j0])
   | succ kj12 =>
    have H := HA.out
    clear HA
    simp only [laws_FnReached.j0] at H
    by_cases c83 : x138_12 = true
    ·subst c83
     have H1 : (none) = some r := by rw [if_pos rfl] at H; exact H
     exact absurd H1 (by simp)
    ·replace c83 := Bool.eq_false_iff.mpr c83
     subst c83
     rw [if_neg zfalse] at H
     by_cases c84 : t728 = 0
     ·rw [if_pos c84] at H
      have c84b0 : (t728 == 0) = true := beq_iff_eq.mpr c84
      have c84b1 : (t728 != 0) = false := bne_eq_false_iff_eq.mpr c84
      clear c84
      replace H := jD.mp H
      obtain ⟨⟨t748, t749⟩, A850, H⟩ := H
      try dsimp only at H
      have A85 := jA A850
      clear A850
      replace H := jD.mp H
      obtain ⟨⟨t750, t751⟩, A860, H⟩ := H
      try dsimp only at H
      have A86 := jA A860
      clear A860
      have HC87 := jA H
      clear H
      obtain ⟨Ao88, co88, eo88⟩ := Kd.R_slice HO_10.out
      subst eo88
      go_upto_region 18 with (first | ((with_reducible refine jH (f := 23) rfl ?_); refine zL (some 144) Try.func23 #[.slice Ao88 t725.length co88, .slice Ao17 t712.length co17] ?_; (with_reducible refine (impl_AreClosed.calls kj12 _ _ t725 _ _ t712 t748 t749 _ ?side1 ?side2 ?side3 ?side4 A85.out).mono ?_); (case side1 => exact zv HO_10); (case side2 => exact (jO HO_10.out).2.1); (case side3 => exact zv HO_4); (case side4 => exact (jO HO_4.out).2.1); rintro e w89 ⟨rfl, hb⟩; refine ⟨_, rfl, ?_⟩; replace HO_4 := jA (jQ (zo HO_4) hb); replace HO_6 := jA (Kd.Q_below (by (with_reducible repeat (first | apply Kd.Q_alloc | apply Kd.Q_drewN | apply Kd.Q_drew)); exact HO_6.out) hb); replace HO_10 := jA (jQ (zo HO_10) hb); replace HO_18 := jA (jQ (zo HO_18) hb); replace BK716 := zB BK716 hb; replace HB := zS1 HB GE716 hb; clear hb; have hcz90 := zc6 BK716) | ((with_reducible refine jH (f := 18) rfl ?_); refine zL (some 149) Try.func18 #[.agg #[.bool t706, .bool t707, .bool t708, .bool t709, .bool t710, .int .i64 t711]] ?_; (with_reducible refine (impl_NumberOf.calls t706 t707 t708 t709 t710 t711 t750 t751 _ A86.out).mono ?_); rintro e w91 ⟨rfl, hb⟩; refine ⟨_, rfl, ?_⟩; replace HO_4 := jA (jQ (zo HO_4) hb); replace HO_6 := jA (Kd.Q_below (by (with_reducible repeat (first | apply Kd.Q_alloc | apply Kd.Q_drewN | apply Kd.Q_drew)); exact HO_6.out) hb); replace HO_10 := jA (jQ (zo HO_10) hb); replace HO_18 := jA (jQ (zo HO_18) hb); replace BK716 := zB BK716 hb; replace HB := zS1 HB GE716 hb; clear hb))
      (try simp only [Act.put, jC, jE, jF])
      go_cut [174] (fun v174 wc => ∃ (kq : Nat) (x174_86 : Bool), v174 = .bool x174_86 ∧ Aside0 (laws_FnReached.j1 kq t712 t715 t717 t720 t725 x174_86 t706 t707 t708 t709 t710 t711 = some r) ∧ Aside0 (kq ≤ kj12) ∧ Aside0 (Kd.R (Kd.int .i64) 2 wc w.heap.size (fun k_ => some k_ ≠ (v718 : Value).ownBlock ∧ some k_ ≠ ((.slice Ao88 t725.length co88) : Value).ownBlock) (.slice Ao17 t712.length co17) t712) ∧ Aside0 (Kd.Q (Kd.int .i64) 2 wc w.heap.size (fun k_ => some k_ ≠ ((.slice Ao17 t712.length co17) : Value).ownBlock ∧ some k_ ≠ ((.slice Ao88 t725.length co88) : Value).ownBlock) v718 t717) ∧ Aside0 (Kd.R (Kd.int .i64) 2 wc w.heap.size (fun k_ => some k_ ≠ ((.slice Ao17 t712.length co17) : Value).ownBlock ∧ some k_ ≠ (v718 : Value).ownBlock) (.slice Ao88 t725.length co88) t725) ∧ Aside0 (wc.heap[gb716]? = some (.cells #[.bool t706, .bool t707, .bool t708, .bool t709, .bool t710, .int .i64 t711] 23 (0, 0))) ∧ Aside0 (Below w.heap.size w wc))
      case first =>
       have H := HC87.out
       clear HC87
       by_cases c92 : t749 = 0
       ·rw [if_pos c92] at H
        have c92b0 : (t749 == 0) = true := beq_iff_eq.mpr c92
        have c92b1 : (t749 != 0) = false := bne_eq_false_iff_eq.mpr c92
        clear c92
        (first | rw [c92b0] | (simp only [i64_w, i32_w]; rw [c92b0]) | skip)
        by_cases c93 : t748 = true
        ·subst c93
         rw [if_pos rfl] at H
         by_cases c94 : t751 = 0
         ·rw [if_pos c94] at H
          have c94b0 : (t751 == 0) = true := beq_iff_eq.mpr c94
          have c94b1 : (t751 != 0) = false := bne_eq_false_iff_eq.mpr c94
          clear c94
          replace H := jD.mp H
          obtain ⟨t752, A950, H⟩ := H
          try dsimp only at H
          have A95 := jA A950
          clear A950
          by_cases c96 : t752 = true
          ·subst c96
           rw [if_pos rfl] at H
           replace H := jD.mp H
           obtain ⟨t753, A970, H⟩ := H
           try dsimp only at H
           have A97 := jA A970
           clear A970
           have H' := jA H
           clear H
           go_wp2_with (first | (go_at_call 31; (with_reducible refine (laws_hasInt.calls kj12 _ _ t725 t750 true _ ?side1 ?side2 A95.out).mono ?_); (case side1 => exact zv HO_10); (case side2 => exact (jO HO_10.out).2.1); rintro e w' ⟨rfl, ⟨nd, rfl⟩⟩; obtain ⟨Ao98, co98, eo98⟩ := Kd.R_slice HO_18.out; subst eo98) | (go_at_call 31; (with_reducible refine (laws_hasInt.calls kj12 _ _ t737 t750 t753 _ ?side1 ?side2 A97.out).mono ?_); (case side1 => exact zv HO_18); (case side2 => exact (jO HO_18.out).2.1); rintro e w' ⟨rfl, ⟨nd, rfl⟩⟩))
           go_meet
           case rel => exact ⟨_, ((t733 == t753)), zz, H', ⟨by have := HJ12.out; first | omega | exact Nat.le_refl _⟩, ⟨by (with_reducible repeat (first | apply jV | apply jU | apply jS)); exact Kd.R_mono HO_4.out (fun _ hk => ⟨hk.1, hk.2.1⟩)⟩, ⟨by (with_reducible repeat (first | apply Kd.Q_alloc | apply Kd.Q_drewN | apply Kd.Q_drew)); exact Kd.Q_mono HO_6.out (fun _ hk => ⟨hk.1, hk.2.1⟩)⟩, ⟨by (with_reducible repeat (first | apply jV | apply jU | apply jS)); exact Kd.R_mono HO_10.out (fun _ hk => ⟨hk.1, hk.2.1⟩)⟩, ⟨zk BK716⟩, ⟨zb1 HB GE716⟩⟩
          ·replace c96 := Bool.eq_false_iff.mpr c96
           subst c96
           have H1 : (none) = some r := by rw [if_neg (show ¬ (false = true) by decide)] at H; exact H
           exact absurd H1 (by simp)
         ·rw [if_neg c94] at H
          exact absurd H (by simp)
        ·replace c93 := Bool.eq_false_iff.mpr c93
         subst c93
         have H1 : (none) = some r := by rw [if_neg (show ¬ (false = true) by decide)] at H; exact H
         exact absurd H1 (by simp)
       ·rw [if_neg c92] at H
        exact absurd H (by simp)
      case rest =>
       clear HC87
       try clear c1
       try clear c2
       try clear p2
       try clear c3
       try clear c4
       try clear c6
       try clear c8
       try clear c9
       try clear c18
       try clear c19
       try clear c23
       try clear c30
       try clear c33
       try clear c33b0
       try clear c33b1
       try clear c34
       try clear c35
       try clear c36
       try clear c36b0
       try clear c36b1
       try clear c37
       try clear c38
       try clear c39
       try clear c39b0
       try clear c39b1
       try clear c40
       try clear c40b0
       try clear c40b1
       try clear c40b2
       try clear c45
       try clear c45b0
       try clear c45b1
       try clear c47
       try clear c48
       try clear c48b0
       try clear c48b1
       try clear c83
       try clear c84
       try clear c84b0
       try clear c84b1
       try clear c92
       try clear c92b0
       try clear c92b1
       try clear c93
       try clear c94
       try clear c94b0
       try clear c94b1
       try clear c96
       try clear hcz16
       try clear hcz19
       try clear hcz21
       try clear hcz23
       try clear hcz25
       try clear hcz27
       try clear hcz29
       try clear hcz31
       try clear hcz90
       try clear p2
       obtain ⟨kq, x174_86, rfl, HA, HJ86, HO_4, HO_6, HO_10, BK716, HB⟩ := hcut
       cases kq with
       | zero => exact absurd HA.out (by simp [laws_FnReached.j1])
       | succ kj86 =>
        have H := HA.out
        clear HA
        simp only [laws_FnReached.j1] at H
        by_cases c99 : x174_86 = true
        ·subst c99
         have H1 : (none) = some r := by rw [if_pos rfl] at H; exact H
         exact absurd H1 (by simp)
        ·replace c99 := Bool.eq_false_iff.mpr c99
         subst c99
         rw [if_neg zfalse] at H
         have HC100 := jA H
         clear H
         go_upto_region 20 with (fail)
         go_cut [181] (fun v181 wc => ∃ (kq : Nat) (x181_99 : Bool), v181 = .bool x181_99 ∧ Aside0 (laws_FnReached.j2 kq t712 t715 t717 t720 t725 x181_99 t706 t707 t708 t709 t710 t711 = some r) ∧ Aside0 (kq ≤ kj86) ∧ Aside0 (Kd.R (Kd.int .i64) 2 wc w.heap.size (fun k_ => some k_ ≠ (v718 : Value).ownBlock ∧ some k_ ≠ ((.slice Ao88 t725.length co88) : Value).ownBlock) (.slice Ao17 t712.length co17) t712) ∧ Aside0 (Kd.Q (Kd.int .i64) 2 wc w.heap.size (fun k_ => some k_ ≠ ((.slice Ao17 t712.length co17) : Value).ownBlock ∧ some k_ ≠ ((.slice Ao88 t725.length co88) : Value).ownBlock) v718 t717) ∧ Aside0 (Kd.R (Kd.int .i64) 2 wc w.heap.size (fun k_ => some k_ ≠ ((.slice Ao17 t712.length co17) : Value).ownBlock ∧ some k_ ≠ (v718 : Value).ownBlock) (.slice Ao88 t725.length co88) t725) ∧ Aside0 (wc.heap[gb716]? = some (.cells #[.bool t706, .bool t707, .bool t708, .bool t709, .bool t710, .int .i64 t711] 23 (0, 0))) ∧ Aside0 (Below w.heap.size w wc))
         case first =>
          have H := HC100.out
          clear HC100
          by_cases c101 : t720 = 4
          ·rw [if_pos c101] at H
           have c101b0 : (t720 == 4) = true := beq_iff_eq.mpr c101
           have c101b1 : (t720 != 4) = false := bne_eq_false_iff_eq.mpr c101
           clear c101
           (first | rw [c101b0] | (simp only [i64_w, i32_w]; rw [c101b0]) | skip)
           replace H := jD.mp H
           obtain ⟨t754, A1020, H⟩ := H
           try dsimp only at H
           have A102 := jA A1020
           clear A1020
           have H' := jA H
           clear H
           go_wp2_with (first | (go_at_call 31; (with_reducible refine (laws_hasInt.calls kj86 _ _ t725 t715 t754 _ ?side1 ?side2 A102.out).mono ?_); (case side1 => exact zv HO_10); (case side2 => exact (jO HO_10.out).2.1); rintro e w' ⟨rfl, ⟨nd, rfl⟩⟩))
           go_meet
           case rel => exact ⟨_, (t754), zz, H', ⟨by have := HJ12.out; have := HJ86.out; first | omega | exact Nat.le_refl _⟩, ⟨zo HO_4⟩, ⟨by (with_reducible repeat (first | apply Kd.Q_alloc | apply Kd.Q_drewN | apply Kd.Q_drew)); exact HO_6.out⟩, ⟨zo HO_10⟩, ⟨zk BK716⟩, ⟨zb1 HB GE716⟩⟩
          ·rw [if_neg c101] at H
           have c101b0 : (t720 == 4) = false := beq_eq_false_iff_ne.mpr c101
           have c101b1 : (t720 != 4) = true := bne_iff_ne.mpr c101
           (first | rw [c101b0] | (simp only [i64_w, i32_w]; rw [c101b0]) | skip)
           have H' := jA H
           clear H
           go_wp2
           go_meet
           case rel => exact ⟨_, (false), zz, H', ⟨by have := HJ12.out; have := HJ86.out; first | omega | exact Nat.le_refl _⟩, ⟨zo HO_4⟩, ⟨by (with_reducible repeat (first | apply Kd.Q_alloc | apply Kd.Q_drewN | apply Kd.Q_drew)); exact HO_6.out⟩, ⟨zo HO_10⟩, ⟨zk BK716⟩, ⟨zb1 HB GE716⟩⟩
         case rest =>
          clear HC100
          try clear c1
          try clear c2
          try clear p2
          try clear c3
          try clear c4
          try clear c6
          try clear c8
          try clear c9
          try clear c10
          try clear c18
          try clear c19
          try clear c23
          try clear c30
          try clear c33
          try clear c33b0
          try clear c33b1
          try clear c34
          try clear c35
          try clear c36
          try clear c36b0
          try clear c36b1
          try clear c37
          try clear c38
          try clear c39
          try clear c39b0
          try clear c39b1
          try clear c40
          try clear c40b0
          try clear c40b1
          try clear c40b2
          try clear c45
          try clear c45b0
          try clear c45b1
          try clear c47
          try clear c48
          try clear c48b0
          try clear c48b1
          try clear c83
          try clear c84
          try clear c84b0
          try clear c84b1
          try clear c92
          try clear c92b0
          try clear c92b1
          try clear c93
          try clear c94
          try clear c94b0
          try clear c94b1
          try clear c96
          try clear c99
          try clear c101
          try clear c101b0
          try clear c101b1
          try clear hcz16
          try clear hcz19
          try clear hcz21
          try clear hcz23
          try clear hcz25
          try clear hcz27
          try clear hcz29
          try clear hcz31
          try clear hcz90
          try clear p2
          obtain ⟨kq, x181_99, rfl, HA, HJ99, HO_4, HO_6, HO_10, BK716, HB⟩ := hcut
          cases kq with
          | zero => exact absurd HA.out (by simp [laws_FnReached.j2])
          | succ kj99 =>
           have H := HA.out
           clear HA
           simp only [laws_FnReached.j2] at H
           by_cases c103 : x181_99 = true
           ·subst c103
            have H1 : (none) = some r := by rw [if_pos rfl] at H; exact H
            exact absurd H1 (by simp)
           ·replace c103 := Bool.eq_false_iff.mpr c103
            subst c103
            rw [if_neg zfalse] at H
            by_cases c104 : t720 = 0
            ·rw [if_pos c104] at H
             have c104b0 : (t720 == 0) = true := beq_iff_eq.mpr c104
             have c104b1 : (t720 != 0) = false := bne_eq_false_iff_eq.mpr c104
             clear c104
             have H' := jA H
             clear H
             go_wp2
             go_loopg [6] kj99 (fun kq v6 w' => ∃ (x6_4 : List Int) (x717000_4 : Bool) (x717001_4 : Bool) (x717002_4 : Bool) (x717003_4 : Bool) (x717004_4 : Bool) (x717005_4 : Int), Aside0 (laws_FnReached.l0 kq t712 t715 x6_4 t725 x717000_4 x717001_4 x717002_4 x717003_4 x717004_4 x717005_4 = some r) ∧ Aside0 (kq ≤ kj99) ∧ Aside0 (Kd.R (Kd.int .i64) 2 w' w.heap.size (fun k_ => some k_ ≠ (v6 : Value).ownBlock ∧ some k_ ≠ ((.slice Ao88 t725.length co88) : Value).ownBlock) (.slice Ao17 t712.length co17) t712) ∧ Aside0 (Kd.Q (Kd.int .i64) 2 w' w.heap.size (fun k_ => some k_ ≠ ((.slice Ao17 t712.length co17) : Value).ownBlock ∧ some k_ ≠ ((.slice Ao88 t725.length co88) : Value).ownBlock) v6 x6_4) ∧ Aside0 (Kd.R (Kd.int .i64) 2 w' w.heap.size (fun k_ => some k_ ≠ ((.slice Ao17 t712.length co17) : Value).ownBlock ∧ some k_ ≠ (v6 : Value).ownBlock) (.slice Ao88 t725.length co88) t725) ∧ Aside0 (w'.heap[gb716]? = some (.cells #[.bool x717000_4, .bool x717001_4, .bool x717002_4, .bool x717003_4, .bool x717004_4, .int .i64 x717005_4] 23 (0, 0))) ∧ Aside0 (Below w.heap.size w w'))
             case atStart => exact ⟨(t717), (t706), (t707), (t708), (t709), (t710), (t711), H', ⟨Nat.le_refl _⟩, ⟨zo HO_4⟩, ⟨by (with_reducible repeat (first | apply Kd.Q_alloc | apply Kd.Q_drewN | apply Kd.Q_drew)); exact HO_6.out⟩, ⟨zo HO_10⟩, ⟨zk BK716⟩, ⟨zb1 HB GE716⟩⟩
             case round =>
              clear H'
              try clear c1
              try clear c2
              try clear p2
              try clear c3
              try clear c4
              try clear c6
              try clear c8
              try clear c9
              try clear c10
              try clear c18
              try clear c19
              try clear c23
              try clear c30
              try clear c33
              try clear c33b0
              try clear c33b1
              try clear c34
              try clear c35
              try clear c36
              try clear c36b0
              try clear c36b1
              try clear c37
              try clear c38
              try clear c39
              try clear c39b0
              try clear c39b1
              try clear c40
              try clear c40b0
              try clear c40b1
              try clear c40b2
              try clear c45
              try clear c45b0
              try clear c45b1
              try clear c47
              try clear c48
              try clear c48b0
              try clear c48b1
              try clear c83
              try clear c84
              try clear c84b0
              try clear c84b1
              try clear c92
              try clear c92b0
              try clear c92b1
              try clear c93
              try clear c94
              try clear c94b0
              try clear c94b1
              try clear c96
              try clear c99
              try clear c101
              try clear c101b0
              try clear c101b1
              try clear c103
              try clear c104
              try clear c104b0
              try clear c104b1
              try clear hcz16
              try clear hcz19
              try clear hcz21
              try clear hcz23
              try clear hcz25
              try clear hcz27
              try clear hcz29
              try clear hcz31
              try clear hcz90
              try clear p2
              obtain ⟨x6_4, x717000_4, x717001_4, x717002_4, x717003_4, x717004_4, x717005_4, HA, HK4, HO_4, HO_6, HO_10, BK716, HB⟩ := hrel
              cases gk with
              | zero => exact absurd HA.out (by simp [laws_FnReached.l0])
              | succ k4 =>
               have H := HA.out
               clear HA
               simp only [laws_FnReached.l0] at H
               by_cases c105 : (x6_4.length : Int) > 0
               ·rw [if_pos c105] at H
                have c105b0 : decide (0 < (x6_4.length : Int)) = true := jJ c105
                have c105b1 : decide (0 < x6_4.length) = true := jJ (by omega)
                clear c105
                by_cases c106 : 0 < (x6_4.length : Int)
                ·rw [if_pos c106] at H
                 have c106b0 : decide (0 < (x6_4.length : Int)) = true := jJ c106
                 have c106b1 : decide (0 < x6_4.length) = true := jJ (by omega)
                 clear c106
                 replace H := jD.mp H
                 obtain ⟨⟨t759, t760, t761, t762, t763, t764, t765⟩, A1070, H⟩ := H
                 replace H : (if t765 = 0 then ((laws_hasInt.f k4 t712 (rd x6_4 0)).bind fun t768 => (if t768 = true then (if 1 ≤ (x6_4.length : Int) then (laws_FnReached.l0 k4 t712 t715 (x6_4.drop (1 : Int).toNat) t725 t759 t760 t761 t762 t763 t764) else (none)) else (none))) else (none)) = some r := H
                 have A107 := jA A1070
                 clear A1070
                 by_cases c108 : t765 = 0
                 ·rw [if_pos c108] at H
                  have c108b0 : (t765 == 0) = true := beq_iff_eq.mpr c108
                  have c108b1 : (t765 != 0) = false := bne_eq_false_iff_eq.mpr c108
                  clear c108
                  replace H := jD.mp H
                  obtain ⟨t768, A1090, H⟩ := H
                  replace H : (if t768 = true then (if 1 ≤ (x6_4.length : Int) then (laws_FnReached.l0 k4 t712 t715 (x6_4.drop (1 : Int).toNat) t725 t759 t760 t761 t762 t763 t764) else (none)) else (none)) = some r := H
                  have A109 := jA A1090
                  clear A1090
                  by_cases c110 : t768 = true
                  ·subst c110
                   rw [if_pos rfl] at H
                   by_cases c111 : 1 ≤ (x6_4.length : Int)
                   ·rw [if_pos c111] at H
                    have c111b0 := eq_true c111
                    have c111b1 : decide (1 ≤ (x6_4.length : Int)) = true := jJ c111
                    clear c111
                    obtain ⟨y769, hy769⟩ : ∃ y_ : List Int, y_ = (x6_4.drop (1 : Int).toNat) := ⟨_, rfl⟩
                    replace H : (laws_FnReached.l0 k4 t712 t715 y769 t725 t759 t760 t761 t762 t763 t764) = some r := by first | (rw [hy769]; with_reducible exact H) | (have H2_ := (Option.bind_some _ _).symm.trans H; rw [hy769]; with_reducible exact H2_) | (have H2_ := (Option.bind_some _ _).symm.trans H; with_reducible exact H2_) | with_reducible exact H | (rw [hy769]; exact H) | exact H
                    have Ny769 := jA hy769
                    clear hy769
                    have H' := jA H
                    clear H
                    obtain ⟨Ao112, co112, eo112, _⟩ := Kd.Q_slice HO_6.out
                    subst eo112
                    try go_wp2
                    replace HO_4 := jA (jS HO_4.out)
                    replace HO_6 := jA (Kd.Q_drew HO_6.out)
                    replace HO_10 := jA (jS HO_10.out)
                    replace BK716 := jA (blk_drew BK716.out)
                    replace HB := jA (below_drew1 HB.out)
                    have p758 : 0 ≤ (0 : Int) := (by omega)
                    have q758 : 0 < (x6_4.length : Int) := jB za
                    obtain ⟨ad758, e758, hx758_0⟩ := jR (Kd.Q_reads' HO_6.out).2.2 0 p758 q758
                    cases e758
                    have qi758 : (0 < x6_4.length) = True := eq_true (by omega)
                    (try rw [show ((0 : Int)).toNat = 0 from rfl] at hx758_0)
                    (try rw [Addr.add_zero'] at hx758_0)
                    replace p758 := eq_true p758
                    replace q758 := eq_true q758
                    refine start_ (n := 11) (S := fun w' => w'.cell? ⟨gb716, 0, none⟩ = some (.bool x717000_4) ∧ w'.cell? ⟨gb716, 1, none⟩ = some (.bool x717001_4) ∧ w'.cell? ⟨gb716, 2, none⟩ = some (.bool x717002_4) ∧ w'.cell? ⟨gb716, 3, none⟩ = some (.bool x717003_4) ∧ w'.cell? ⟨gb716, 4, none⟩ = some (.bool x717004_4) ∧ w'.cell? ⟨gb716, 5, none⟩ = some (.int .i64 x717005_4) ∧ w'.cell? ad758 = some (.int .i64 (rd x6_4 0))) (ds := []) #[false, false, false, false, false, false, false, false, false, false, false] zr rfl rfl ⟨(jL BK716.out 0).trans rfl, (jL BK716.out 1).trans rfl, (jL BK716.out 2).trans rfl, (jL BK716.out 3).trans rfl, (jL BK716.out 4).trans rfl, (jL BK716.out 5).trans rfl, hx758_0⟩ (fun hHeld => ?_); refine with_tabW laws_FnReached.tab25 laws_FnReached.bits25 (fun HT_ HW_ => ?_)
                    generalize wr.drew = w113 at HO_4 HO_6 HO_10 BK716 HB hx758_0 hHeld ⊢
                    refine zp HT_ 1 189 #[false, true, false, false, false, false, false, false, false, false, false] ?_
                    refine zp HT_ 2 190 #[false, true, true, false, false, false, false, false, false, false, false] ?_
                    refine zt7 HT_ HW_ hHeld 0 188 #[true, true, true, false, false, false, false, false, false, false, false] ?_
                    refine zt7 HT_ HW_ hHeld 3 191 #[true, true, true, true, false, false, false, false, false, false, false] ?_
                    refine join_ (σ := Nat) 2 m11_7fc (fun s_ => [(192, .tuple #[.agg #[.bool t759, .bool t760, .bool t761, .bool t762, .bool t763, .int .i64 t764], .int .i64 t765]), (26, .pointer (some ⟨s_, 0, none⟩)), (187, .tuple #[.agg #[.bool t759, .bool t760, .bool t761, .bool t762, .bool t763, .int .i64 t764], .int .i64 t765]), (193, .agg #[.bool t759, .bool t760, .bool t761, .bool t762, .bool t763, .int .i64 t764]), (194, .int .i64 t765)]) (fun s_ w' => (w'.cell? ⟨gb716, 0, none⟩ = some (.bool x717000_4) ∧ w'.cell? ⟨gb716, 1, none⟩ = some (.bool x717001_4) ∧ w'.cell? ⟨gb716, 2, none⟩ = some (.bool x717002_4) ∧ w'.cell? ⟨gb716, 3, none⟩ = some (.bool x717003_4) ∧ w'.cell? ⟨gb716, 4, none⟩ = some (.bool x717004_4) ∧ w'.cell? ⟨gb716, 5, none⟩ = some (.int .i64 x717005_4) ∧ w'.cell? ad758 = some (.int .i64 (rd x6_4 0))) ∧ (Kd.R (Kd.int .i64) 2 w' w.heap.size (fun k_ => some k_ ≠ (.slice Ao17 t712.length co17 : Value).ownBlock ∧ some k_ ≠ (.slice (some ad758) x6_4.length co112 : Value).ownBlock) (.slice Ao88 t725.length co88) t725) ∧ (Kd.R (Kd.int .i64) 2 w' w.heap.size (fun k_ => some k_ ≠ (.slice Ao88 t725.length co88 : Value).ownBlock ∧ some k_ ≠ (.slice (some ad758) x6_4.length co112 : Value).ownBlock) (.slice Ao17 t712.length co17) t712) ∧ (Kd.Q (Kd.int .i64) 2 w' w.heap.size (fun k_ => some k_ ≠ (.slice Ao88 t725.length co88 : Value).ownBlock ∧ some k_ ≠ (.slice Ao17 t712.length co17 : Value).ownBlock) (.slice (some ad758) x6_4.length co112) x6_4) ∧ (w'.heap[gb716]? = some (.cells #[.bool x717000_4, .bool x717001_4, .bool x717002_4, .bool x717003_4, .bool x717004_4, .int .i64 x717005_4] 23 (0, 0))) ∧ (w'.heap[s_]? = some (.cells #[.bool false, .bool false, .bool false, .bool false, .bool false, .int .i64 0] 23 (0, 0))) ∧ (w.heap.size ≤ s_) ∧ (w.heap.size ≤ s_) ∧ (gb716 ≠ s_) ∧ (s_ ≠ gb716) ∧ (Below w.heap.size w w')) ?_ ?_
                    rotate_left
                    ·intro hCont
                     refine two_ (i := 4) (j := 8) (Ni := some 192) (Nj := some 26) #[true, true, true, true, true, false, false, false, false, false, false] #[true, true, true, true, false, false, false, false, true, false, false] rfl rfl rfl rfl (two_of HT_.out zr) (by decide) (by decide) (fun K hK => ?_) (fun K hK => ?_)
                     ·skip
                      refine goes_ Try.func32 zr rfl #[.agg #[.bool x717000_4, .bool x717001_4, .bool x717002_4, .bool x717003_4, .bool x717004_4, .int .i64 x717005_4], .int .i64 (rd x6_4 0)] (by rfl) rfl rfl zm ?_
                      with_reducible refine (impl_GiveInput.calls x717000_4 x717001_4 x717002_4 x717003_4 x717004_4 x717005_4 (rd x6_4 0) t759 t760 t761 t762 t763 t764 t765 _ A107.out).mono ?_
                      rintro e w114 ⟨rfl, hb⟩
                      have HS6_ := (hb.cell (World.block_lt_of_cell? _ _ (hHeld.2.2.2.2.2.2))).trans (hHeld.2.2.2.2.2.2)
                      refine ⟨_, rfl, ?_⟩
                      replace HO_4 := jA (jQ (zo HO_4) hb)
                      replace HO_6 := jA (Kd.Q_below (by (with_reducible repeat (first | apply Kd.Q_alloc | apply Kd.Q_drewN | apply Kd.Q_drew)); exact HO_6.out) hb)
                      replace HO_10 := jA (jQ (zo HO_10) hb)
                      replace BK716 := zB BK716 hb
                      replace HB := zS1 HB GE716 hb
                      (try clear hb)
                      (try clear hb2)
                      (try clear hk)
                      (try clear hi)
                      refine hK.out _ _ ⟨(jL BK716.out 0).trans rfl, (jL BK716.out 1).trans rfl, (jL BK716.out 2).trans rfl, (jL BK716.out 3).trans rfl, (jL BK716.out 4).trans rfl, (jL BK716.out 5).trans rfl, HS6_⟩ (fun hHeld => ?_)
                      clear hK K
                      refine norm_ (a' := ?_) ?_ ?_
                      rotate_left
                      ·show Act.put _ (some 192) _ = _
                       simp only [Act.put, jC, jE, jF, i64_w, i32_w]
                       rfl
                      refine zp HT_ 5 187 #[true, true, true, true, true, true, false, false, false, false, false] ?_
                      refine zp HT_ 6 193 #[true, true, true, true, true, true, true, false, false, false, false] ?_
                      refine zp HT_ 7 194 #[true, true, true, true, true, true, true, true, false, false, false] ?_
                      refine one_ (i := 8) (N := some 26) m11_7fc rfl rfl (one_of HT_.out zr) (by decide) (fun K hK => ?_)
                      refine box_step ?hg (N := 26) ?hd (cs := #[.bool false, .bool false, .bool false, .bool false, .bool false, .int .i64 0]) (t := 23) ?hr ?_; (case hd => rfl); (case hg => rfl); (case hr => first | (go_simp; done) | (go_simp; rfl))
                      intro gb766 hg w115 hbox hb
                      have HS6_ := (hb.cell (World.block_lt_of_cell? _ _ (hHeld.2.2.2.2.2.2))).trans (hHeld.2.2.2.2.2.2)
                      replace HO_4 := jA (jQ (zo HO_4) hb)
                      replace HO_6 := jA (Kd.Q_below (by (with_reducible repeat (first | apply Kd.Q_alloc | apply Kd.Q_drewN | apply Kd.Q_drew)); exact HO_6.out) hb)
                      replace HO_10 := jA (jQ (zo HO_10) hb)
                      have BK766 := jA (hbox)
                      have GW766 := zg1 hg HB GE716
                      have GE766 := zg1 hg HB GE716
                      replace HB := zS1 HB GE716 hb
                      have NB716_766 := zn hg BK716
                      have NB766_716 := zN hg BK716
                      replace BK716 := zB BK716 hb
                      clear hb hbox hg
                      refine hK.out _ _ ⟨(jL BK716.out 0).trans rfl, (jL BK716.out 1).trans rfl, (jL BK716.out 2).trans rfl, (jL BK716.out 3).trans rfl, (jL BK716.out 4).trans rfl, (jL BK716.out 5).trans rfl, HS6_⟩ (fun hHeld => ?_)
                      clear hK K
                      refine norm_ (a' := ?_) ?_ ?_
                      rotate_left
                      ·show Act.put _ (some 26) _ = _
                       simp only [Act.put, jC, jE, jF, i64_w, i32_w]
                       rfl
                      exact norm_ (by simp only [putAll, Act.put, jC, jE, jF]) (hCont (gb766) _ ⟨hHeld, (zo HO_10), (by (with_reducible repeat (first | apply jV | apply jU | apply jS)); exact Kd.R_mono HO_4.out (fun _ hk => ⟨hk.2, hk.1⟩)), (by (with_reducible repeat (first | apply Kd.Q_alloc | apply Kd.Q_drewN | apply Kd.Q_drew)); exact Kd.Q_mono HO_6.out (fun _ hk => ⟨hk.2, hk.1⟩)), (zk BK716), (zk BK766), GW766.out, GE766.out, NB716_766.out, NB766_716.out, (zb2 HB GE716 GE766)⟩)
                     ·skip
                      refine box_step ?hg (N := 26) ?hd (cs := #[.bool false, .bool false, .bool false, .bool false, .bool false, .int .i64 0]) (t := 23) ?hr ?_; (case hd => rfl); (case hg => rfl); (case hr => first | (go_simp; done) | (go_simp; rfl))
                      intro gb766 hg w114 hbox hb
                      have HS6_ := (hb.cell (World.block_lt_of_cell? _ _ (hHeld.2.2.2.2.2.2))).trans (hHeld.2.2.2.2.2.2)
                      replace HO_4 := jA (jQ (zo HO_4) hb)
                      replace HO_6 := jA (Kd.Q_below (by (with_reducible repeat (first | apply Kd.Q_alloc | apply Kd.Q_drewN | apply Kd.Q_drew)); exact HO_6.out) hb)
                      replace HO_10 := jA (jQ (zo HO_10) hb)
                      have BK766 := jA (hbox)
                      have GW766 := zg1 hg HB GE716
                      have GE766 := zg1 hg HB GE716
                      replace HB := zS1 HB GE716 hb
                      have NB716_766 := zn hg BK716
                      have NB766_716 := zN hg BK716
                      replace BK716 := zB BK716 hb
                      clear hb hbox hg
                      refine hK.out _ _ ⟨(jL BK716.out 0).trans rfl, (jL BK716.out 1).trans rfl, (jL BK716.out 2).trans rfl, (jL BK716.out 3).trans rfl, (jL BK716.out 4).trans rfl, (jL BK716.out 5).trans rfl, HS6_⟩ (fun hHeld => ?_)
                      clear hK K
                      refine norm_ (a' := ?_) ?_ ?_
                      rotate_left
                      ·show Act.put _ (some 26) _ = _
                       simp only [Act.put, jC, jE, jF, i64_w, i32_w]
                       rfl
                      refine one_ (i := 4) (N := some 192) #[true, true, true, true, true, false, false, false, true, false, false] rfl rfl (one_of HT_.out zr) (by decide) (fun K hK => ?_)
                      refine goes_ Try.func32 zr rfl #[.agg #[.bool x717000_4, .bool x717001_4, .bool x717002_4, .bool x717003_4, .bool x717004_4, .int .i64 x717005_4], .int .i64 (rd x6_4 0)] (by rfl) rfl rfl zm ?_
                      with_reducible refine (impl_GiveInput.calls x717000_4 x717001_4 x717002_4 x717003_4 x717004_4 x717005_4 (rd x6_4 0) t759 t760 t761 t762 t763 t764 t765 _ A107.out).mono ?_
                      rintro e w115 ⟨rfl, hb⟩
                      have HS6_ := (hb.cell (World.block_lt_of_cell? _ _ (hHeld.2.2.2.2.2.2))).trans (hHeld.2.2.2.2.2.2)
                      refine ⟨_, rfl, ?_⟩
                      replace HO_4 := jA (jQ (zo HO_4) hb)
                      replace HO_6 := jA (Kd.Q_below (by (with_reducible repeat (first | apply Kd.Q_alloc | apply Kd.Q_drewN | apply Kd.Q_drew)); exact HO_6.out) hb)
                      replace HO_10 := jA (jQ (zo HO_10) hb)
                      replace BK716 := zB BK716 hb
                      replace BK766 := zB BK766 hb
                      replace HB := zS2 HB GE716 GE766 hb
                      (try clear hb)
                      (try clear hb2)
                      (try clear hk)
                      (try clear hi)
                      refine hK.out _ _ ⟨(jL BK716.out 0).trans rfl, (jL BK716.out 1).trans rfl, (jL BK716.out 2).trans rfl, (jL BK716.out 3).trans rfl, (jL BK716.out 4).trans rfl, (jL BK716.out 5).trans rfl, HS6_⟩ (fun hHeld => ?_)
                      clear hK K
                      refine norm_ (a' := ?_) ?_ ?_
                      rotate_left
                      ·show Act.put _ (some 192) _ = _
                       simp only [Act.put, jC, jE, jF, i64_w, i32_w]
                       rfl
                      refine zp HT_ 5 187 #[true, true, true, true, true, true, false, false, true, false, false] ?_
                      refine zp HT_ 6 193 #[true, true, true, true, true, true, true, false, true, false, false] ?_
                      refine zp HT_ 7 194 m11_7fc ?_
                      exact norm_ (by simp only [putAll, Act.put, jC, jE, jF]) (hCont (gb766) _ ⟨hHeld, (zo HO_10), (by (with_reducible repeat (first | apply jV | apply jU | apply jS)); exact Kd.R_mono HO_4.out (fun _ hk => ⟨hk.2, hk.1⟩)), (by (with_reducible repeat (first | apply Kd.Q_alloc | apply Kd.Q_drewN | apply Kd.Q_drew)); exact Kd.Q_mono HO_6.out (fun _ hk => ⟨hk.2, hk.1⟩)), (zk BK716), (zk BK766), GW766.out, GE766.out, NB716_766.out, NB766_716.out, (zb2 HB GE716 GE766)⟩)
                    rintro gb766 w116 ⟨hS_, h0_, h1_, h2_, h3_, h4_, h5_, h6_, h7_, h8_, h9_⟩
                    replace HO_10 : Aside0 (Kd.R (Kd.int .i64) 2 w116 w.heap.size (fun k_ => some k_ ≠ (.slice Ao17 t712.length co17 : Value).ownBlock ∧ some k_ ≠ (.slice (some ad758) x6_4.length co112 : Value).ownBlock) (.slice Ao88 t725.length co88) t725) := ⟨h0_⟩
                    replace HO_4 : Aside0 (Kd.R (Kd.int .i64) 2 w116 w.heap.size (fun k_ => some k_ ≠ (.slice Ao88 t725.length co88 : Value).ownBlock ∧ some k_ ≠ (.slice (some ad758) x6_4.length co112 : Value).ownBlock) (.slice Ao17 t712.length co17) t712) := ⟨h1_⟩
                    replace HO_6 : Aside0 (Kd.Q (Kd.int .i64) 2 w116 w.heap.size (fun k_ => some k_ ≠ (.slice Ao88 t725.length co88 : Value).ownBlock ∧ some k_ ≠ (.slice Ao17 t712.length co17 : Value).ownBlock) (.slice (some ad758) x6_4.length co112) x6_4) := ⟨h2_⟩
                    replace BK716 : Aside0 (w116.heap[gb716]? = some (.cells #[.bool x717000_4, .bool x717001_4, .bool x717002_4, .bool x717003_4, .bool x717004_4, .int .i64 x717005_4] 23 (0, 0))) := ⟨h3_⟩
                    have BK766 : Aside0 (w116.heap[gb766]? = some (.cells #[.bool false, .bool false, .bool false, .bool false, .bool false, .int .i64 0] 23 (0, 0))) := ⟨h4_⟩
                    have GW766 : Aside0 (w.heap.size ≤ gb766) := ⟨h5_⟩
                    have GE766 : Aside0 (w.heap.size ≤ gb766) := ⟨h6_⟩
                    have NB716_766 : Aside0 (gb716 ≠ gb766) := ⟨h7_⟩
                    have NB766_716 : Aside0 (gb766 ≠ gb716) := ⟨h8_⟩
                    replace HB : Aside0 (Below w.heap.size w w116) := ⟨h9_⟩
                    clear h0_ h1_ h2_ h3_ h4_ h5_ h6_ h7_ h8_ h9_
                    have hHeld : w116.cell? ⟨gb716, 0, none⟩ = some (.bool x717000_4) ∧ w116.cell? ⟨gb716, 1, none⟩ = some (.bool x717001_4) ∧ w116.cell? ⟨gb716, 2, none⟩ = some (.bool x717002_4) ∧ w116.cell? ⟨gb716, 3, none⟩ = some (.bool x717003_4) ∧ w116.cell? ⟨gb716, 4, none⟩ = some (.bool x717004_4) ∧ w116.cell? ⟨gb716, 5, none⟩ = some (.int .i64 x717005_4) ∧ w116.cell? ad758 = some (.int .i64 (rd x6_4 0)) := hS_
                    refine norm_ (a' := ?_) ?_ ?_
                    rotate_left
                    ·simp only [putAll, Act.put, jC, jE, jF]
                     rfl
                    refine one_ (i := 9) (N := none) #[true, true, true, true, true, true, true, true, true, true, false] rfl rfl (one_of HT_.out zr) (by decide) (fun K hK => ?_)
                    have hs117 : w116.cell? ⟨gb766, 0, none⟩ = some (.bool false) := (jL BK766.out 0).trans rfl
                    have hfs117 := jY BK766.out 0
                    have hns117_0 := NB716_766.out
                    have hms117_0 := NB766_716.out
                    have hs118 : w116.cell? ⟨gb766, 1, none⟩ = some (.bool false) := (jL BK766.out 1).trans rfl
                    have hfs118 := jY BK766.out 1
                    have hns118_0 := NB716_766.out
                    have hms118_0 := NB766_716.out
                    have hs119 : w116.cell? ⟨gb766, 2, none⟩ = some (.bool false) := (jL BK766.out 2).trans rfl
                    have hfs119 := jY BK766.out 2
                    have hns119_0 := NB716_766.out
                    have hms119_0 := NB766_716.out
                    have hs120 : w116.cell? ⟨gb766, 3, none⟩ = some (.bool false) := (jL BK766.out 3).trans rfl
                    have hfs120 := jY BK766.out 3
                    have hns120_0 := NB716_766.out
                    have hms120_0 := NB766_716.out
                    have hs121 : w116.cell? ⟨gb766, 4, none⟩ = some (.bool false) := (jL BK766.out 4).trans rfl
                    have hfs121 := jY BK766.out 4
                    have hns121_0 := NB716_766.out
                    have hms121_0 := NB766_716.out
                    have hs122 : w116.cell? ⟨gb766, 5, none⟩ = some (.int .i64 0) := (jL BK766.out 5).trans rfl
                    have hfs122 := jY BK766.out 5
                    have hns122_0 := NB716_766.out
                    have hms122_0 := NB766_716.out
                    refine skip_ (w1 := ?_) (by rfl) rfl ?_ ?_
                    rotate_left
                    ·go_simp
                     rfl
                    refine hK.out _ _ ⟨((jG (p := ⟨gb766, _, none⟩) NB716_766.out _).trans (((jG (p := ⟨gb766, _, none⟩) NB716_766.out _).trans (((jG (p := ⟨gb766, _, none⟩) NB716_766.out _).trans (((jG (p := ⟨gb766, _, none⟩) NB716_766.out _).trans (((jG (p := ⟨gb766, _, none⟩) NB716_766.out _).trans (((jG (p := ⟨gb766, _, none⟩) NB716_766.out _).trans (hHeld.1)))))))))))), ((jG (p := ⟨gb766, _, none⟩) NB716_766.out _).trans (((jG (p := ⟨gb766, _, none⟩) NB716_766.out _).trans (((jG (p := ⟨gb766, _, none⟩) NB716_766.out _).trans (((jG (p := ⟨gb766, _, none⟩) NB716_766.out _).trans (((jG (p := ⟨gb766, _, none⟩) NB716_766.out _).trans (((jG (p := ⟨gb766, _, none⟩) NB716_766.out _).trans (hHeld.2.1)))))))))))), ((jG (p := ⟨gb766, _, none⟩) NB716_766.out _).trans (((jG (p := ⟨gb766, _, none⟩) NB716_766.out _).trans (((jG (p := ⟨gb766, _, none⟩) NB716_766.out _).trans (((jG (p := ⟨gb766, _, none⟩) NB716_766.out _).trans (((jG (p := ⟨gb766, _, none⟩) NB716_766.out _).trans (((jG (p := ⟨gb766, _, none⟩) NB716_766.out _).trans (hHeld.2.2.1)))))))))))), ((jG (p := ⟨gb766, _, none⟩) NB716_766.out _).trans (((jG (p := ⟨gb766, _, none⟩) NB716_766.out _).trans (((jG (p := ⟨gb766, _, none⟩) NB716_766.out _).trans (((jG (p := ⟨gb766, _, none⟩) NB716_766.out _).trans (((jG (p := ⟨gb766, _, none⟩) NB716_766.out _).trans (((jG (p := ⟨gb766, _, none⟩) NB716_766.out _).trans (hHeld.2.2.2.1)))))))))))), ((jG (p := ⟨gb766, _, none⟩) NB716_766.out _).trans (((jG (p := ⟨gb766, _, none⟩) NB716_766.out _).trans (((jG (p := ⟨gb766, _, none⟩) NB716_766.out _).trans (((jG (p := ⟨gb766, _, none⟩) NB716_766.out _).trans (((jG (p := ⟨gb766, _, none⟩) NB716_766.out _).trans (((jG (p := ⟨gb766, _, none⟩) NB716_766.out _).trans (hHeld.2.2.2.2.1)))))))))))), ((jG (p := ⟨gb766, _, none⟩) NB716_766.out _).trans (((jG (p := ⟨gb766, _, none⟩) NB716_766.out _).trans (((jG (p := ⟨gb766, _, none⟩) NB716_766.out _).trans (((jG (p := ⟨gb766, _, none⟩) NB716_766.out _).trans (((jG (p := ⟨gb766, _, none⟩) NB716_766.out _).trans (((jG (p := ⟨gb766, _, none⟩) NB716_766.out _).trans (hHeld.2.2.2.2.2.1)))))))))))), ((jG (p := ⟨gb766, _, none⟩) (by first | exact Kd.own_blk (Kd.Q_ne HO_6.out BK766.out (by decide)) | (rw [jX]; exact Kd.own_blk (Kd.Q_ne HO_6.out BK766.out (by decide))) | (show (Addr.add _ _).block ≠ _; rw [jX]; exact Kd.own_blk (Kd.Q_ne HO_6.out BK766.out (by decide))) | (dsimp only; exact Kd.own_blk (Kd.Q_ne HO_6.out BK766.out (by decide)))) _).trans (((jG (p := ⟨gb766, _, none⟩) (by first | exact Kd.own_blk (Kd.Q_ne HO_6.out BK766.out (by decide)) | (rw [jX]; exact Kd.own_blk (Kd.Q_ne HO_6.out BK766.out (by decide))) | (show (Addr.add _ _).block ≠ _; rw [jX]; exact Kd.own_blk (Kd.Q_ne HO_6.out BK766.out (by decide))) | (dsimp only; exact Kd.own_blk (Kd.Q_ne HO_6.out BK766.out (by decide)))) _).trans (((jG (p := ⟨gb766, _, none⟩) (by first | exact Kd.own_blk (Kd.Q_ne HO_6.out BK766.out (by decide)) | (rw [jX]; exact Kd.own_blk (Kd.Q_ne HO_6.out BK766.out (by decide))) | (show (Addr.add _ _).block ≠ _; rw [jX]; exact Kd.own_blk (Kd.Q_ne HO_6.out BK766.out (by decide))) | (dsimp only; exact Kd.own_blk (Kd.Q_ne HO_6.out BK766.out (by decide)))) _).trans (((jG (p := ⟨gb766, _, none⟩) (by first | exact Kd.own_blk (Kd.Q_ne HO_6.out BK766.out (by decide)) | (rw [jX]; exact Kd.own_blk (Kd.Q_ne HO_6.out BK766.out (by decide))) | (show (Addr.add _ _).block ≠ _; rw [jX]; exact Kd.own_blk (Kd.Q_ne HO_6.out BK766.out (by decide))) | (dsimp only; exact Kd.own_blk (Kd.Q_ne HO_6.out BK766.out (by decide)))) _).trans (((jG (p := ⟨gb766, _, none⟩) (by first | exact Kd.own_blk (Kd.Q_ne HO_6.out BK766.out (by decide)) | (rw [jX]; exact Kd.own_blk (Kd.Q_ne HO_6.out BK766.out (by decide))) | (show (Addr.add _ _).block ≠ _; rw [jX]; exact Kd.own_blk (Kd.Q_ne HO_6.out BK766.out (by decide))) | (dsimp only; exact Kd.own_blk (Kd.Q_ne HO_6.out BK766.out (by decide)))) _).trans (((jG (p := ⟨gb766, _, none⟩) (by first | exact Kd.own_blk (Kd.Q_ne HO_6.out BK766.out (by decide)) | (rw [jX]; exact Kd.own_blk (Kd.Q_ne HO_6.out BK766.out (by decide))) | (show (Addr.add _ _).block ≠ _; rw [jX]; exact Kd.own_blk (Kd.Q_ne HO_6.out BK766.out (by decide))) | (dsimp only; exact Kd.own_blk (Kd.Q_ne HO_6.out BK766.out (by decide)))) _).trans (hHeld.2.2.2.2.2.2))))))))))))⟩ (fun hHeld => ?_)
                    clear hK K
                    refine zp HT_ 10 27 #[true, true, true, true, true, true, true, true, true, true, true] ?_
                    refine done_ (done_of HT_.out zr) ?_
                    have n0_ : Aside0 (Kd.R (Kd.int .i64) 2 ((((((w116.setCell ⟨gb766, 0, none⟩ (.bool t759)).setCell ⟨gb766, 1, none⟩ (.bool t760)).setCell ⟨gb766, 2, none⟩ (.bool t761)).setCell ⟨gb766, 3, none⟩ (.bool t762)).setCell ⟨gb766, 4, none⟩ (.bool t763)).setCell ⟨gb766, 5, none⟩ (.int .i64 t764)) w.heap.size (fun k_ => some k_ ≠ (.slice (some ad758) x6_4.length co112 : Value).ownBlock ∧ some k_ ≠ (.slice Ao88 t725.length co88 : Value).ownBlock) (.slice Ao17 t712.length co17) t712) := ⟨by (with_reducible repeat (first | apply jV | apply jU | apply jS)); exact Kd.R_mono (Kd.R_far (p := ⟨gb766, 5, none⟩) (Kd.R_far (p := ⟨gb766, 4, none⟩) (Kd.R_far (p := ⟨gb766, 3, none⟩) (Kd.R_far (p := ⟨gb766, 2, none⟩) (Kd.R_far (p := ⟨gb766, 1, none⟩) (Kd.R_far (p := ⟨gb766, 0, none⟩) (Kd.R_types HO_4.out BK766.out (by decide)) (fun _ hk => hk.2) (.bool t759)) (fun _ hk => hk.2) (.bool t760)) (fun _ hk => hk.2) (.bool t761)) (fun _ hk => hk.2) (.bool t762)) (fun _ hk => hk.2) (.bool t763)) (fun _ hk => hk.2) (.int .i64 t764)) (fun _ hk => ⟨hk.1.2, hk.1.1⟩)⟩
                    have n1_ : Aside0 (Kd.Q (Kd.int .i64) 2 ((((((w116.setCell ⟨gb766, 0, none⟩ (.bool t759)).setCell ⟨gb766, 1, none⟩ (.bool t760)).setCell ⟨gb766, 2, none⟩ (.bool t761)).setCell ⟨gb766, 3, none⟩ (.bool t762)).setCell ⟨gb766, 4, none⟩ (.bool t763)).setCell ⟨gb766, 5, none⟩ (.int .i64 t764)) w.heap.size (fun k_ => some k_ ≠ (.slice Ao17 t712.length co17 : Value).ownBlock ∧ some k_ ≠ (.slice Ao88 t725.length co88 : Value).ownBlock) (.slice (some ad758) x6_4.length co112) x6_4) := ⟨by (with_reducible repeat (first | apply Kd.Q_alloc | apply Kd.Q_drewN | apply Kd.Q_drew)); exact Kd.Q_mono (Kd.Q_far (p := ⟨gb766, 5, none⟩) (Kd.Q_far (p := ⟨gb766, 4, none⟩) (Kd.Q_far (p := ⟨gb766, 3, none⟩) (Kd.Q_far (p := ⟨gb766, 2, none⟩) (Kd.Q_far (p := ⟨gb766, 1, none⟩) (Kd.Q_far (p := ⟨gb766, 0, none⟩) (Kd.Q_types HO_6.out BK766.out (by decide)) (fun _ hk => hk.2) (.bool t759)) (fun _ hk => hk.2) (.bool t760)) (fun _ hk => hk.2) (.bool t761)) (fun _ hk => hk.2) (.bool t762)) (fun _ hk => hk.2) (.bool t763)) (fun _ hk => hk.2) (.int .i64 t764)) (fun _ hk => ⟨hk.1.2, hk.1.1⟩)⟩
                    have n2_ : Aside0 (Kd.R (Kd.int .i64) 2 ((((((w116.setCell ⟨gb766, 0, none⟩ (.bool t759)).setCell ⟨gb766, 1, none⟩ (.bool t760)).setCell ⟨gb766, 2, none⟩ (.bool t761)).setCell ⟨gb766, 3, none⟩ (.bool t762)).setCell ⟨gb766, 4, none⟩ (.bool t763)).setCell ⟨gb766, 5, none⟩ (.int .i64 t764)) w.heap.size (fun k_ => some k_ ≠ (.slice Ao17 t712.length co17 : Value).ownBlock ∧ some k_ ≠ (.slice (some ad758) x6_4.length co112 : Value).ownBlock) (.slice Ao88 t725.length co88) t725) := ⟨by (with_reducible repeat (first | apply jV | apply jU | apply jS)); exact Kd.R_mono (Kd.R_far (p := ⟨gb766, 5, none⟩) (Kd.R_far (p := ⟨gb766, 4, none⟩) (Kd.R_far (p := ⟨gb766, 3, none⟩) (Kd.R_far (p := ⟨gb766, 2, none⟩) (Kd.R_far (p := ⟨gb766, 1, none⟩) (Kd.R_far (p := ⟨gb766, 0, none⟩) (Kd.R_types HO_10.out BK766.out (by decide)) (fun _ hk => hk.2) (.bool t759)) (fun _ hk => hk.2) (.bool t760)) (fun _ hk => hk.2) (.bool t761)) (fun _ hk => hk.2) (.bool t762)) (fun _ hk => hk.2) (.bool t763)) (fun _ hk => hk.2) (.int .i64 t764)) (fun _ hk => ⟨hk.1.1, hk.1.2⟩)⟩
                    have n3_ : Aside0 (((((((w116.setCell ⟨gb766, 0, none⟩ (.bool t759)).setCell ⟨gb766, 1, none⟩ (.bool t760)).setCell ⟨gb766, 2, none⟩ (.bool t761)).setCell ⟨gb766, 3, none⟩ (.bool t762)).setCell ⟨gb766, 4, none⟩ (.bool t763)).setCell ⟨gb766, 5, none⟩ (.int .i64 t764)).heap[gb716]? = some (.cells #[.bool x717000_4, .bool x717001_4, .bool x717002_4, .bool x717003_4, .bool x717004_4, .int .i64 x717005_4] 23 (0, 0))) := ⟨zQ1 BK716 NB716_766⟩
                    have n4_ : Aside0 (((((((w116.setCell ⟨gb766, 0, none⟩ (.bool t759)).setCell ⟨gb766, 1, none⟩ (.bool t760)).setCell ⟨gb766, 2, none⟩ (.bool t761)).setCell ⟨gb766, 3, none⟩ (.bool t762)).setCell ⟨gb766, 4, none⟩ (.bool t763)).setCell ⟨gb766, 5, none⟩ (.int .i64 t764)).heap[gb766]? = some (.cells #[.bool t759, .bool t760, .bool t761, .bool t762, .bool t763, .int .i64 t764] 23 (0, 0))) := ⟨zP0 BK766⟩
                    have n5_ : Aside0 (Below w.heap.size w ((((((w116.setCell ⟨gb766, 0, none⟩ (.bool t759)).setCell ⟨gb766, 1, none⟩ (.bool t760)).setCell ⟨gb766, 2, none⟩ (.bool t761)).setCell ⟨gb766, 3, none⟩ (.bool t762)).setCell ⟨gb766, 4, none⟩ (.bool t763)).setCell ⟨gb766, 5, none⟩ (.int .i64 t764))) := ⟨zb2 HB GE716 GE766⟩
                    (try clear HO_4)
                    (try clear HO_6)
                    (try clear HO_10)
                    (try clear BK716)
                    (try clear BK766)
                    (try clear HB)
                    generalize ((((((w116.setCell ⟨gb766, 0, none⟩ (.bool t759)).setCell ⟨gb766, 1, none⟩ (.bool t760)).setCell ⟨gb766, 2, none⟩ (.bool t761)).setCell ⟨gb766, 3, none⟩ (.bool t762)).setCell ⟨gb766, 4, none⟩ (.bool t763)).setCell ⟨gb766, 5, none⟩ (.int .i64 t764)) = w123 at n0_ n1_ n2_ n3_ n4_ n5_ ⊢
                    have HO_4 := n0_
                    have HO_6 := n1_
                    have HO_10 := n2_
                    have BK716 := n3_
                    have BK766 := n4_
                    have HB := n5_
                    clear n0_ n1_ n2_ n3_ n4_ n5_
                    have p767 : 0 ≤ (0 : Int) := (by omega)
                    have q767 : 0 < (x6_4.length : Int) := jB za
                    obtain ⟨ad767, e767, hx767_0⟩ := jR (Kd.Q_reads' HO_6.out).2.2 0 p767 q767
                    obtain rfl : ad758 = ad767 := (by injection e767)
                    have qi767 : (0 < x6_4.length) = True := eq_true (by omega)
                    (try rw [show ((0 : Int)).toNat = 0 from rfl] at hx767_0)
                    (try rw [Addr.add_zero'] at hx767_0)
                    replace p767 := eq_true p767
                    replace q767 := eq_true q767
                    try go_wp2_with (first | (go_at_call 31; (with_reducible refine (laws_hasInt.calls k4 _ _ t712 (rd x6_4 0) true _ ?side1 ?side2 A109.out).mono ?_); (case side1 => exact zv HO_4); (case side2 => exact (jO HO_4.out).2.1); rintro e w' ⟨rfl, ⟨nd, rfl⟩⟩; (try (rw [drewN_self w123]; generalize hq_ : World.drewN w123 _ = w123; replace HO_10 : Aside0 (Kd.R (Kd.int .i64) 2 w123 w.heap.size (fun k_ => some k_ ≠ (.slice Ao17 t712.length co17 : Value).ownBlock ∧ some k_ ≠ (.slice (some ad758) x6_4.length co112 : Value).ownBlock) (.slice Ao88 t725.length co88) t725) := ⟨by rw [← hq_]; exact (zo HO_10)⟩; replace HO_4 : Aside0 (Kd.R (Kd.int .i64) 2 w123 w.heap.size (fun k_ => some k_ ≠ (.slice Ao88 t725.length co88 : Value).ownBlock ∧ some k_ ≠ (.slice (some ad758) x6_4.length co112 : Value).ownBlock) (.slice Ao17 t712.length co17) t712) := ⟨by rw [← hq_]; exact (by (with_reducible repeat (first | apply jV | apply jU | apply jS)); exact Kd.R_mono HO_4.out (fun _ hk => ⟨hk.2, hk.1⟩))⟩; replace HO_6 : Aside0 (Kd.Q (Kd.int .i64) 2 w123 w.heap.size (fun k_ => some k_ ≠ (.slice Ao88 t725.length co88 : Value).ownBlock ∧ some k_ ≠ (.slice Ao17 t712.length co17 : Value).ownBlock) (.slice (some ad758) x6_4.length co112) x6_4) := ⟨by rw [← hq_]; exact (by (with_reducible repeat (first | apply Kd.Q_alloc | apply Kd.Q_drewN | apply Kd.Q_drew)); exact Kd.Q_mono HO_6.out (fun _ hk => ⟨hk.2, hk.1⟩))⟩; replace BK716 : Aside0 (w123.heap[gb716]? = some (.cells #[.bool x717000_4, .bool x717001_4, .bool x717002_4, .bool x717003_4, .bool x717004_4, .int .i64 x717005_4] 23 (0, 0))) := ⟨by rw [← hq_]; exact (zk BK716)⟩; replace BK766 : Aside0 (w123.heap[gb766]? = some (.cells #[.bool t759, .bool t760, .bool t761, .bool t762, .bool t763, .int .i64 t764] 23 (0, 0))) := ⟨by rw [← hq_]; exact (zk BK766)⟩; replace HB : Aside0 (Below w.heap.size w w123) := ⟨by rw [← hq_]; exact (zb2 HB GE716 GE766)⟩; clear hq_)); have hnb124 := NB766_716.out; have hnc124 := NB716_766.out; have hcz125 := zc6 BK766; have hcz126 := zc6 BK716) | ((with_reducible refine gate_store (t := 23) (p := 3) rfl ?_); refine store_event (t := 23) (p := 3) (v := ?vo_w127) (w1 := ((((((w123.setCell ⟨gb716, 0, none⟩ (.bool t759)).setCell ⟨gb716, 1, none⟩ (.bool t760)).setCell ⟨gb716, 2, none⟩ (.bool t761)).setCell ⟨gb716, 3, none⟩ (.bool t762)).setCell ⟨gb716, 4, none⟩ (.bool t763)).setCell ⟨gb716, 5, none⟩ (.int .i64 t764))) ?hg ?ho ?hn ?hr ?_; (case ho => rfl); (case hg => rfl); (case hn => rfl); (case hr => first | (go_simp; done) | (go_simp; rfl)); intro w127 hw; replace HO_4 : Aside0 (Kd.R (Kd.int .i64) 2 w127 w.heap.size (fun k_ => some k_ ≠ (.slice (some ad758) x6_4.length co112 : Value).ownBlock ∧ some k_ ≠ (.slice Ao88 t725.length co88 : Value).ownBlock) (.slice Ao17 t712.length co17) t712) := ⟨(by rw [hw]; exact (by (with_reducible repeat (first | apply jV | apply jU | apply jS)); exact Kd.R_mono (Kd.R_far (p := ⟨gb716, 5, none⟩) (Kd.R_far (p := ⟨gb716, 4, none⟩) (Kd.R_far (p := ⟨gb716, 3, none⟩) (Kd.R_far (p := ⟨gb716, 2, none⟩) (Kd.R_far (p := ⟨gb716, 1, none⟩) (Kd.R_far (p := ⟨gb716, 0, none⟩) (Kd.R_types HO_4.out BK716.out (by decide)) (fun _ hk => hk.2) (.bool t759)) (fun _ hk => hk.2) (.bool t760)) (fun _ hk => hk.2) (.bool t761)) (fun _ hk => hk.2) (.bool t762)) (fun _ hk => hk.2) (.bool t763)) (fun _ hk => hk.2) (.int .i64 t764)) (fun _ hk => by first | exact ⟨hk.1.1, hk.1.2⟩ | exact ⟨hk.1.2, hk.1.1⟩)))⟩; replace HO_6 : Aside0 (Kd.Q (Kd.int .i64) 2 w127 w.heap.size (fun k_ => some k_ ≠ (.slice Ao17 t712.length co17 : Value).ownBlock ∧ some k_ ≠ (.slice Ao88 t725.length co88 : Value).ownBlock) (.slice (some ad758) x6_4.length co112) x6_4) := ⟨(by rw [hw]; exact (by (with_reducible repeat (first | apply Kd.Q_alloc | apply Kd.Q_drewN | apply Kd.Q_drew)); exact Kd.Q_mono (Kd.Q_far (p := ⟨gb716, 5, none⟩) (Kd.Q_far (p := ⟨gb716, 4, none⟩) (Kd.Q_far (p := ⟨gb716, 3, none⟩) (Kd.Q_far (p := ⟨gb716, 2, none⟩) (Kd.Q_far (p := ⟨gb716, 1, none⟩) (Kd.Q_far (p := ⟨gb716, 0, none⟩) (Kd.Q_types HO_6.out BK716.out (by decide)) (fun _ hk => hk.2) (.bool t759)) (fun _ hk => hk.2) (.bool t760)) (fun _ hk => hk.2) (.bool t761)) (fun _ hk => hk.2) (.bool t762)) (fun _ hk => hk.2) (.bool t763)) (fun _ hk => hk.2) (.int .i64 t764)) (fun _ hk => by first | exact ⟨hk.1.1, hk.1.2⟩ | exact ⟨hk.1.2, hk.1.1⟩)))⟩; replace HO_10 : Aside0 (Kd.R (Kd.int .i64) 2 w127 w.heap.size (fun k_ => some k_ ≠ (.slice Ao17 t712.length co17 : Value).ownBlock ∧ some k_ ≠ (.slice (some ad758) x6_4.length co112 : Value).ownBlock) (.slice Ao88 t725.length co88) t725) := ⟨(by rw [hw]; exact (by (with_reducible repeat (first | apply jV | apply jU | apply jS)); exact Kd.R_mono (Kd.R_far (p := ⟨gb716, 5, none⟩) (Kd.R_far (p := ⟨gb716, 4, none⟩) (Kd.R_far (p := ⟨gb716, 3, none⟩) (Kd.R_far (p := ⟨gb716, 2, none⟩) (Kd.R_far (p := ⟨gb716, 1, none⟩) (Kd.R_far (p := ⟨gb716, 0, none⟩) (Kd.R_types HO_10.out BK716.out (by decide)) (fun _ hk => hk.2) (.bool t759)) (fun _ hk => hk.2) (.bool t760)) (fun _ hk => hk.2) (.bool t761)) (fun _ hk => hk.2) (.bool t762)) (fun _ hk => hk.2) (.bool t763)) (fun _ hk => hk.2) (.int .i64 t764)) (fun _ hk => by first | exact ⟨hk.1.1, hk.1.2⟩ | exact ⟨hk.1.2, hk.1.1⟩)))⟩; replace BK716 : Aside0 (w127.heap[gb716]? = some (.cells #[.bool t759, .bool t760, .bool t761, .bool t762, .bool t763, .int .i64 t764] 23 (0, 0))) := ⟨(by rw [hw]; exact (zP0 BK716))⟩; replace BK766 : Aside0 (w127.heap[gb766]? = some (.cells #[.bool t759, .bool t760, .bool t761, .bool t762, .bool t763, .int .i64 t764] 23 (0, 0))) := ⟨(by rw [hw]; exact (zQ1 BK766 NB766_716))⟩; replace HB : Aside0 (Below w.heap.size w w127) := ⟨(by rw [hw]; exact (zb2 HB GE716 GE766))⟩; clear hw; have q128 : (1 : Int) ≤ ((x6_4.length : Int) : Int) := jB za; obtain ⟨i0128, hi0128, _, hsz128, _⟩ := info_parts info2; have hcut128 := cut_from (P := Try.prog) 35 2 .i64 Try.underlying35 hi0128 1 hsz128 (some ad758) x6_4.length co112 1 (by omega) q128; have hr128 := Kd.Q_drop (k := (1 : Int).toNat) HO_6.out (by omega); obtain ⟨A128, hA128⟩ : ∃ A1, A1 = (if co112 = (1 : Int).toNat then (some ad758) else ((some ad758) : Option Addr).map (·.add ((1 : Int).toNat * 1))) := ⟨_, rfl⟩; obtain ⟨c128, hc128⟩ : ∃ c1, c1 = co112 - (1 : Int).toNat := ⟨_, rfl⟩; have hy128 : y769.length = x6_4.length - (1 : Int).toNat := (by rw [Ny769.out, List.length_drop]); rw [← Ny769.out] at hr128; rw [← hy128, ← hA128, ← hc128] at hcut128; replace hr128 : Kd.Q (Kd.int .i64) 2 w127 w.heap.size (fun k_ => some k_ ≠ (.slice Ao17 t712.length co17 : Value).ownBlock ∧ some k_ ≠ (.slice Ao88 t725.length co88 : Value).ownBlock) (.slice A128 y769.length c128) y769 := (by rw [hA128, hc128, hy128]; exact hr128); have HE128 : Aside0 ((Value.slice A128 y769.length c128).ownBlock = (.slice (some ad758) x6_4.length co112 : Value).ownBlock) := ⟨by rw [hA128]; split <;> (cases ((some ad758) : Option Addr) <;> rfl)⟩; clear hy128 hi0128 hsz128 HO_6 hA128 hc128; have HO771 := jA hr128; clear hr128; replace q128 := eq_true q128; have n_ := jA (Kd.R_mono (ok' := fun k_ => (some k_ ≠ (.slice A128 y769.length c128 : Value).ownBlock ∧ some k_ ≠ (.slice Ao88 t725.length co88 : Value).ownBlock)) HO_4.out (fun k_ hk => ⟨(by rw [HE128.out]; exact hk.1), hk.2⟩)); clear HO_4; have HO_4 := n_; clear n_; have n_ := jA (Kd.R_mono (ok' := fun k_ => (some k_ ≠ (.slice Ao17 t712.length co17 : Value).ownBlock ∧ some k_ ≠ (.slice A128 y769.length c128 : Value).ownBlock)) HO_10.out (fun k_ hk => ⟨hk.1, (by rw [HE128.out]; exact hk.2)⟩)); clear HO_10; have HO_10 := n_; clear n_))
                    go_roundg k4
                    case measure => have := HJ12.out; have := HJ86.out; have := HJ99.out; have := HK4.out; omega
                    case rel => exact ⟨(y769), (t759), (t760), (t761), (t762), (t763), (t764), H', ⟨by have := HJ12.out; have := HJ86.out; have := HJ99.out; have := HK4.out; omega⟩, ⟨zo HO_4⟩, ⟨by (with_reducible repeat (first | apply Kd.Q_alloc | apply Kd.Q_drewN | apply Kd.Q_drew)); exact HO771.out⟩, ⟨zo HO_10⟩, ⟨zk BK716⟩, ⟨zb2 HB GE716 GE766⟩⟩
                   ·rw [if_neg c111] at H
                    exact absurd H (by simp)
                  ·replace c110 := Bool.eq_false_iff.mpr c110
                   subst c110
                   have H1 : (none) = some r := by rw [if_neg (show ¬ (false = true) by decide)] at H; exact H
                   exact absurd H1 (by simp)
                 ·rw [if_neg c108] at H
                  exact absurd H (by simp)
                ·rw [if_neg c106] at H
                 exact absurd H (by simp)
               ·rw [if_neg c105] at H
                have c105b0 : decide (0 < (x6_4.length : Int)) = false := jW c105
                have c105b1 : decide (0 < x6_4.length) = false := jW (by omega)
                clear c105
                replace H := jD.mp H
                obtain ⟨⟨t755, t756⟩, A1510, H⟩ := H
                try dsimp only at H
                have A151 := jA A1510
                clear A1510
                by_cases c152 : t756 = 0
                ·rw [if_pos c152] at H
                 have c152b0 : (t756 == 0) = true := beq_iff_eq.mpr c152
                 have c152b1 : (t756 != 0) = false := bne_eq_false_iff_eq.mpr c152
                 clear c152
                 by_cases c153 : t755 = t715
                 ·rw [if_pos c153] at H
                  have c153b0 : (t755 == t715) = true := beq_iff_eq.mpr c153
                  have c153b1 : (t755 != t715) = false := bne_eq_false_iff_eq.mpr c153
                  clear c153
                  replace H := jD.mp H
                  obtain ⟨t757, A1540, H⟩ := H
                  try dsimp only at H
                  have A154 := jA A1540
                  clear A1540
                  obtain rfl := jN H
                  obtain ⟨Ao155, co155, eo155, _⟩ := Kd.Q_slice HO_6.out
                  subst eo155
                  have hcz156 := zc6 BK716
                  go_wp2_with (first | ((with_reducible refine jH (f := 18) rfl ?_); refine zL (some 210) Try.func18 #[.agg #[.bool x717000_4, .bool x717001_4, .bool x717002_4, .bool x717003_4, .bool x717004_4, .int .i64 x717005_4]] ?_; (with_reducible refine (impl_NumberOf.calls x717000_4 x717001_4 x717002_4 x717003_4 x717004_4 x717005_4 t755 t756 _ A151.out).mono ?_); rintro e w157 ⟨rfl, hb⟩; refine ⟨_, rfl, ?_⟩; replace HO_4 := jA (jQ (zo HO_4) hb); replace HO_6 := jA (Kd.Q_below (by (with_reducible repeat (first | apply Kd.Q_alloc | apply Kd.Q_drewN | apply Kd.Q_drew)); exact HO_6.out) hb); replace HO_10 := jA (jQ (zo HO_10) hb); replace BK716 := zB BK716 hb; replace HB := zS1 HB GE716 hb; clear hb) | (go_at_call 31; (with_reducible refine (laws_hasInt.calls k4 _ _ t725 t715 t757 _ ?side1 ?side2 A154.out).mono ?_); (case side1 => exact zv HO_10); (case side2 => exact (jO HO_10.out).2.1); rintro e w' ⟨rfl, ⟨nd, rfl⟩⟩))
                  go_ret
                  exact ⟨ze, zb1 HB GE716⟩
                 ·rw [if_neg c153] at H
                  exact absurd H (by simp)
                ·rw [if_neg c152] at H
                 exact absurd H (by simp)
            ·rw [if_neg c104] at H
             have c104b0 : (t720 == 0) = false := beq_eq_false_iff_ne.mpr c104
             have c104b1 : (t720 != 0) = true := bne_iff_ne.mpr c104
             obtain rfl := jN H
             go_wp2
             go_ret
             exact ⟨ze, zb1 HB GE716⟩
     ·rw [if_neg c84] at H
      have c84b0 : (t728 == 0) = false := beq_eq_false_iff_ne.mpr c84
      have c84b1 : (t728 != 0) = true := bne_iff_ne.mpr c84
      obtain rfl := jN H
      go_wp2
      go_ret
      exact ⟨ze, zb1 HB GE716⟩

/-- THE ONE PURE STATEMENT of laws_FnReached: yours. -/
def laws_FnReached.Pure : Prop := ∀ (l0 : List Int), l0.length ≤ maxLen → l0.length * 1 ≤ 140737488351232 → (∀ x ∈ l0, (Lit.int .u8 x).wf = true) → ∃ k, laws_FnReached.f k l0 = some true
theorem laws_FnReached.walk (P : laws_FnReached.Pure) (a0 : Option Addr) (len0 cap0 : Nat) (z0 : List Int) (w : World) (w0 : (a0 = none ∧ len0 = 0 ∧ cap0 = 0 ∧ z0 = []) ∨ ∃ x, a0 = some x ∧ len0 ≤ cap0 ∧ cap0 ≤ maxLen ∧ z0.length = cap0 ∧ (∀ i, i < z0.length → w.cell? (x.add i) = some (.int .u8 (z0.getD i 0))) ∧ ∀ n ∈ z0, (Lit.int .u8 n).wf = true) (y0 : len0 * 1 ≤ 140737488351232) :
  Calls Try.prog 6 #[.slice a0 len0 cap0] w fun e w' => e = .returned (.bool true) ∧ Below w.heap.size w w' := by
 obtain ⟨l0, rfl, hr0, hm0, hw0, hc0⟩ := ReadsInt.ofRowC w0
 obtain ⟨k, h⟩ := P l0 hm0 y0 hw0
 refine (laws_FnReached.calls k _ _ l0 true w (Kd.C_of_reads (d := (0 : Int)) (h1 := fun _ => rfl) hr0) hc0 h).mono ?_
 rintro e w' ⟨rfl, hd⟩
 exact ⟨rfl, hd⟩

end Go.Proofs.Ythieppjmjgijfaa.PFnReached
