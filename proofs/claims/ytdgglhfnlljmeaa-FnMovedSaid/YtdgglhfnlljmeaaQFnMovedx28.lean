/- Functions and contracts that FnMoved reaches (29 of 29). -/
import Derived.Test.YtdgglhfnlljmeaaQFnMovedx27
namespace Go.Proofs.Ytdgglhfnlljmeaa.PFnMoved
open Go.RowKit Go.Proofs.YtdgglhfnlljmeaaW.PrintWords Go.Proofs.YtdgglhfnlljmeaaW.PrintLast Go.Proofs.YtdgglhfnlljmeaaW.PrintMore
attribute [local go_sem] max2_int min2_int max_two min_two max_three min_three max_four min_four   -- for this text's walks alone
set_option linter.unusedVariables false
set_option linter.unusedSimpArgs false

/-! ### laws_FnMoved: function 11 -/
mutual
def laws_FnMoved.j0 : Nat → List (S65) → Int → List (S65) → ByteArray → Int → Int → List (S65) → Int → Bool → Int → List Int → Int → List Int → Int → List Int → Int → List Int → Int → List Int → Int → List Int → Int → List Int → Option (Bool)
 | 0, _, _, _, _, _, _, _, _, _, _, _, _, _, _, _, _, _, _, _, _, _, _, _ => none
 | k + 1, x3, x10, x14, x16, x17, x18, x21, x26, x146, x644000, x644001, x645000, x645001, x655000, x655001, x656000, x656001, x676000, x676001, x690000, x690001, x696000, x696001 => if x146 = true then (none) else (if x26 = 0 then ((impl_NetIn.f k x21 x690000 x690001).bind fun bt705 => ((impl_NetIn.f k x21 x696000 x696001).bind fun bt707 => (if bt705.2 = 0 then (if bt707.2 = 0 then (if bt707.1 > bt705.1 then (none) else (laws_FnMoved.j1 k x3 x10 x14 x16 x17 x18 x644000 x644001 x645000 x645001 x655000 x655001 x656000 x656001 x676000 x676001)) else (none)) else (none)))) else (laws_FnMoved.j1 k x3 x10 x14 x16 x17 x18 x644000 x644001 x645000 x645001 x655000 x655001 x656000 x656001 x676000 x676001))
def laws_FnMoved.j1 : Nat → List (S65) → Int → List (S65) → ByteArray → Int → Int → Int → List Int → Int → List Int → Int → List Int → Int → List Int → Int → List Int → Option (Bool)
 | 0, _, _, _, _, _, _, _, _, _, _, _, _, _, _, _, _ => none
 | k + 1, x3, x10, x14, x16, x17, x18, x644000, x644001, x645000, x645001, x655000, x655001, x656000, x656001, x676000, x676001 => if x18 = 0 then ((impl_StorePieces.f k x14 x676000 x676001 x16 x17).bind fun bt709 => (if bt709.2.2 = 0 then (if x17 < 1000 then ((impl_StorePieces.f k x14 x676000 x676001 x16 (wrap64 (x17 + 1))).bind fun bt715 => (if bt715.2.2 = 5 then (laws_FnMoved.j2 k x3 x10 x644000 x644001 x645000 x645001 x655000 x655001 x656000 x656001) else (none))) else (laws_FnMoved.j2 k x3 x10 x644000 x644001 x645000 x645001 x655000 x655001 x656000 x656001)) else (none))) else (laws_FnMoved.j2 k x3 x10 x644000 x644001 x645000 x645001 x655000 x655001 x656000 x656001)
def laws_FnMoved.j2 : Nat → List (S65) → Int → Int → List Int → Int → List Int → Int → List Int → Int → List Int → Option (Bool)
 | 0, _, _, _, _, _, _, _, _, _, _ => none
 | k + 1, x3, x10, x644000, x644001, x645000, x645001, x655000, x655001, x656000, x656001 => laws_FnMoved.l0 k x3 x10 0 x644000 x644001 x645000 x645001 x655000 x655001 x656000 x656001
def laws_FnMoved.l0 : Nat → List (S65) → Int → Int → Int → List Int → Int → List Int → Int → List Int → Int → List Int → Option (Bool)
 | 0, _, _, _, _, _, _, _, _, _, _, _ => none
 | k + 1, x3, x10, x37, x644000, x644001, x645000, x645001, x655000, x655001, x656000, x656001 => if x10 = 0 then (laws_FnMoved.j4 k x3 x10 x37 (decide (x37 < (x3.length : Int))) x644000 x644001 x645000 x645001 x655000 x655001 x656000 x656001) else (laws_FnMoved.j4 k x3 x10 x37 false x644000 x644001 x645000 x645001 x655000 x655001 x656000 x656001)
def laws_FnMoved.j4 : Nat → List (S65) → Int → Int → Bool → Int → List Int → Int → List Int → Int → List Int → Int → List Int → Option (Bool)
 | 0, _, _, _, _, _, _, _, _, _, _, _, _ => none
 | k + 1, x3, x10, x37, x204, x644000, x644001, x645000, x645001, x655000, x655001, x656000, x656001 => if x204 = true then (if 0 ≤ x37 then (if x37 < (x655001.length : Int) then (if x37 < (x656001.length : Int) then (if x37 < (x644001.length : Int) then (if x37 < (x645001.length : Int) then (if (wrap64 ((rd x655001 x37) + (rd x656001 x37))) = (wrap64 ((rd x644001 x37) + (rd x645001 x37))) then (laws_FnMoved.l0 k x3 x10 (wrap64 (x37 + 1)) x644000 x644001 x645000 x645001 x655000 x655001 x656000 x656001) else (none)) else (none)) else (none)) else (none)) else (none)) else (none)) else (some true)
end
def laws_FnMoved.f (k : Nat) (l0 : List Int) : Option (Bool) := (laws_big.f l0).bind fun t629 => (if t629 = true then (some true) else ((spec_DrawMovePieces.f k l0).bind fun bt630 => ((impl_MovePieces.f k bt630.1 bt630.2.1 bt630.2.2.1 bt630.2.2.2.1 bt630.2.2.2.2.1 bt630.2.2.2.2.2.1 bt630.2.2.2.2.2.2).bind fun bt645 => ((spec_MovePieces.f k bt630.1 bt630.2.1 bt630.2.2.1 bt630.2.2.2.1 bt630.2.2.2.2.1 bt630.2.2.2.2.2.1 bt630.2.2.2.2.2.2).bind fun bt656 => ((spec_DrawRoomFor.f k l0).bind fun bt667 => ((impl_RoomFor.f k bt667.1 bt667.2.1 bt667.2.2.1 bt667.2.2.2).bind fun bt676 => ((spec_RoomFor.f k bt667.1 bt667.2.1 bt667.2.2.1 bt667.2.2.2).bind fun bt678 => ((spec_DrawTakePieces.f k l0).bind fun bt680 => ((impl_TakePieces.f k bt680.1 bt680.2.1 bt680.2.2.1 bt680.2.2.2.1 bt680.2.2.2.2).bind fun bt690 => ((spec_TakePieces.f k bt680.1 bt680.2.1 bt680.2.2.1 bt680.2.2.2.1 bt680.2.2.2.2).bind fun bt696 => (if bt645.2.2.2.2 = bt656.2.2.2.2 then ((laws_likeMagazine.f k bt645.1 bt645.2.1 bt656.1 bt656.2.1).bind fun t702 => (if t702 = true then ((laws_likeMagazine.f k bt645.2.2.1 bt645.2.2.2.1 bt656.2.2.1 bt656.2.2.2.1).bind fun t703 => (if t703 = true then (if bt676.2 = bt678.2 then (if bt676.1 = bt678.1 then (if bt690.2.2 = bt696.2.2 then ((laws_likeMagazine.f k bt690.1 bt690.2.1 bt696.1 bt696.2.1).bind fun t704 => (laws_FnMoved.j0 k bt630.1 bt645.2.2.2.2 bt667.1 bt667.2.2.2 bt676.1 bt676.2 bt680.1 bt690.2.2 (!t704) bt630.2.1 bt630.2.2.1 bt630.2.2.2.1 bt630.2.2.2.2.1 bt645.1 bt645.2.1 bt645.2.2.1 bt645.2.2.2.1 bt667.2.1 bt667.2.2.1 bt680.2.1 bt680.2.2.1 bt690.1 bt690.2.1)) else (none)) else (none)) else (none)) else (none))) else (none))) else (none))))))))))))
theorem laws_FnMoved.mono_l : ∀ k, (∀ y0 y1 y2 y3 y4 y5 y6 y7 y8 y9 y10 y11 y12 y13 y14 y15 y16 y17 y18 y19 y20 y21 y22, LeO (laws_FnMoved.j0 k y0 y1 y2 y3 y4 y5 y6 y7 y8 y9 y10 y11 y12 y13 y14 y15 y16 y17 y18 y19 y20 y21 y22) (laws_FnMoved.j0 (k + 1) y0 y1 y2 y3 y4 y5 y6 y7 y8 y9 y10 y11 y12 y13 y14 y15 y16 y17 y18 y19 y20 y21 y22)) ∧ (∀ y0 y1 y2 y3 y4 y5 y6 y7 y8 y9 y10 y11 y12 y13 y14 y15, LeO (laws_FnMoved.j1 k y0 y1 y2 y3 y4 y5 y6 y7 y8 y9 y10 y11 y12 y13 y14 y15) (laws_FnMoved.j1 (k + 1) y0 y1 y2 y3 y4 y5 y6 y7 y8 y9 y10 y11 y12 y13 y14 y15)) ∧ (∀ y0 y1 y2 y3 y4 y5 y6 y7 y8 y9, LeO (laws_FnMoved.j2 k y0 y1 y2 y3 y4 y5 y6 y7 y8 y9) (laws_FnMoved.j2 (k + 1) y0 y1 y2 y3 y4 y5 y6 y7 y8 y9)) ∧ (∀ y0 y1 y2 y3 y4 y5 y6 y7 y8 y9 y10, LeO (laws_FnMoved.l0 k y0 y1 y2 y3 y4 y5 y6 y7 y8 y9 y10) (laws_FnMoved.l0 (k + 1) y0 y1 y2 y3 y4 y5 y6 y7 y8 y9 y10)) ∧ (∀ y0 y1 y2 y3 y4 y5 y6 y7 y8 y9 y10 y11, LeO (laws_FnMoved.j4 k y0 y1 y2 y3 y4 y5 y6 y7 y8 y9 y10 y11) (laws_FnMoved.j4 (k + 1) y0 y1 y2 y3 y4 y5 y6 y7 y8 y9 y10 y11))
 | 0 => ⟨fun _ _ _ _ _ _ _ _ _ _ _ _ _ _ _ _ _ _ _ _ _ _ _ r h => by simp [laws_FnMoved.j0] at h, fun _ _ _ _ _ _ _ _ _ _ _ _ _ _ _ _ r h => by simp [laws_FnMoved.j1] at h, fun _ _ _ _ _ _ _ _ _ _ r h => by simp [laws_FnMoved.j2] at h, fun _ _ _ _ _ _ _ _ _ _ _ r h => by simp [laws_FnMoved.l0] at h, fun _ _ _ _ _ _ _ _ _ _ _ _ r h => by simp [laws_FnMoved.j4] at h⟩
 | k + 1 => by
  obtain ⟨ih0, ih1, ih2, ih3, ih4⟩ := laws_FnMoved.mono_l k
  refine ⟨?_, ?_, ?_, ?_, ?_⟩ <;> intros <;> (first | unfold laws_FnMoved.j0 | unfold laws_FnMoved.j1 | unfold laws_FnMoved.j2 | unfold laws_FnMoved.l0 | unfold laws_FnMoved.j4) <;> (repeat' first | (with_reducible exact ih0 _ _ _ _ _ _ _ _ _ _ _ _ _ _ _ _ _ _ _ _ _ _ _) | (with_reducible exact ih1 _ _ _ _ _ _ _ _ _ _ _ _ _ _ _ _) | (with_reducible exact ih2 _ _ _ _ _ _ _ _ _ _) | (with_reducible exact ih3 _ _ _ _ _ _ _ _ _ _ _) | (with_reducible exact ih4 _ _ _ _ _ _ _ _ _ _ _ _) | (with_reducible exact impl_MovePieces.mono _ _ _ _ _ _ _ _) | (with_reducible exact impl_NetIn.mono _ _ _ _) | (with_reducible exact impl_RoomFor.mono _ _ _ _ _) | (with_reducible exact impl_StorePieces.mono _ _ _ _ _ _) | (with_reducible exact impl_TakePieces.mono _ _ _ _ _ _) | (with_reducible exact laws_likeMagazine.mono _ _ _ _ _) | (with_reducible exact spec_DrawMovePieces.mono _ _) | (with_reducible exact spec_DrawRoomFor.mono _ _) | (with_reducible exact spec_DrawTakePieces.mono _ _) | (with_reducible exact spec_MovePieces.mono _ _ _ _ _ _ _ _) | (with_reducible exact spec_RoomFor.mono _ _ _ _ _) | (with_reducible exact spec_TakePieces.mono _ _ _ _ _ _) | (with_reducible exact LeO.refl _) | (with_reducible exact LeO.none _) | (with_reducible refine LeO.ite ?_ ?_) | (with_reducible refine LeO.bind ?_ (fun _ => ?_)) | exact ih0 _ _ _ _ _ _ _ _ _ _ _ _ _ _ _ _ _ _ _ _ _ _ _ | exact ih1 _ _ _ _ _ _ _ _ _ _ _ _ _ _ _ _ | exact ih2 _ _ _ _ _ _ _ _ _ _ | exact ih3 _ _ _ _ _ _ _ _ _ _ _ | exact ih4 _ _ _ _ _ _ _ _ _ _ _ _ | exact impl_MovePieces.mono _ _ _ _ _ _ _ _ | exact impl_NetIn.mono _ _ _ _ | exact impl_RoomFor.mono _ _ _ _ _ | exact impl_StorePieces.mono _ _ _ _ _ _ | exact impl_TakePieces.mono _ _ _ _ _ _ | exact laws_likeMagazine.mono _ _ _ _ _ | exact spec_DrawMovePieces.mono _ _ | exact spec_DrawRoomFor.mono _ _ | exact spec_DrawTakePieces.mono _ _ | exact spec_MovePieces.mono _ _ _ _ _ _ _ _ | exact spec_RoomFor.mono _ _ _ _ _ | exact spec_TakePieces.mono _ _ _ _ _ _ | exact LeO.none _ | refine LeO.ite ?_ ?_ | refine LeO.bind ?_ (fun _ => ?_))
theorem laws_FnMoved.mono : ∀ a0 k, LeO (laws_FnMoved.f k a0) (laws_FnMoved.f (k + 1) a0) := by
 intro a0 k
 obtain ⟨ih0, ih1, ih2, ih3, ih4⟩ := laws_FnMoved.mono_l k
 unfold laws_FnMoved.f
 repeat' first
   | (with_reducible exact ih0 _ _ _ _ _ _ _ _ _ _ _ _ _ _ _ _ _ _ _ _ _ _ _)
   | (with_reducible exact ih1 _ _ _ _ _ _ _ _ _ _ _ _ _ _ _ _)
   | (with_reducible exact ih2 _ _ _ _ _ _ _ _ _ _)
   | (with_reducible exact ih3 _ _ _ _ _ _ _ _ _ _ _)
   | (with_reducible exact ih4 _ _ _ _ _ _ _ _ _ _ _ _)
   | (with_reducible exact impl_MovePieces.mono _ _ _ _ _ _ _ _)
   | (with_reducible exact impl_NetIn.mono _ _ _ _)
   | (with_reducible exact impl_RoomFor.mono _ _ _ _ _)
   | (with_reducible exact impl_StorePieces.mono _ _ _ _ _ _)
   | (with_reducible exact impl_TakePieces.mono _ _ _ _ _ _)
   | (with_reducible exact laws_likeMagazine.mono _ _ _ _ _)
   | (with_reducible exact spec_DrawMovePieces.mono _ _)
   | (with_reducible exact spec_DrawRoomFor.mono _ _)
   | (with_reducible exact spec_DrawTakePieces.mono _ _)
   | (with_reducible exact spec_MovePieces.mono _ _ _ _ _ _ _ _)
   | (with_reducible exact spec_RoomFor.mono _ _ _ _ _)
   | (with_reducible exact spec_TakePieces.mono _ _ _ _ _ _)
   | (with_reducible exact LeO.refl _)
   | (with_reducible exact LeO.none _)
   | (with_reducible refine LeO.ite ?_ ?_)
   | (with_reducible refine LeO.bind ?_ (fun _ => ?_))
   | exact ih0 _ _ _ _ _ _ _ _ _ _ _ _ _ _ _ _ _ _ _ _ _ _ _
   | exact ih1 _ _ _ _ _ _ _ _ _ _ _ _ _ _ _ _
   | exact ih2 _ _ _ _ _ _ _ _ _ _
   | exact ih3 _ _ _ _ _ _ _ _ _ _ _
   | exact ih4 _ _ _ _ _ _ _ _ _ _ _ _
   | exact impl_MovePieces.mono _ _ _ _ _ _ _ _
   | exact impl_NetIn.mono _ _ _ _
   | exact impl_RoomFor.mono _ _ _ _ _
   | exact impl_StorePieces.mono _ _ _ _ _ _
   | exact impl_TakePieces.mono _ _ _ _ _ _
   | exact laws_likeMagazine.mono _ _ _ _ _
   | exact spec_DrawMovePieces.mono _ _
   | exact spec_DrawRoomFor.mono _ _
   | exact spec_DrawTakePieces.mono _ _
   | exact spec_MovePieces.mono _ _ _ _ _ _ _ _
   | exact spec_RoomFor.mono _ _ _ _ _
   | exact spec_TakePieces.mono _ _ _ _ _ _
   | exact LeO.none _
   | refine LeO.ite ?_ ?_
   | refine LeO.bind ?_ (fun _ => ?_)
set_option maxHeartbeats 8000000 in
set_option maxRecDepth 100000 in
theorem laws_FnMoved.calls (k : Nat) (A0 : Option Addr) (c0 : Nat) (l0 : List Int) (r : Bool) (w : World) (hr0 : Kd.C (Kd.int .u8) w A0 l0.length l0) (hc0 : l0.length ≤ c0) (h : laws_FnMoved.f k l0 = some r) :
  Calls Try.prog 11 #[.slice A0 l0.length c0] w fun e w' => e = .returned (.bool r) ∧ Below w.heap.size w w' := by
 have hu28 := Try.underlying28
 have HR0 := jA hr0
 have HC0 := jA hc0
 clear hr0 hc0
 have HB := jA (Below.refl w.heap.size w)
 have H := h
 unfold laws_FnMoved.f at H
 clear h
 replace H := jB.mp H
 obtain ⟨t629, A20, H⟩ := H
 try dsimp only at H
 have A2 := jA A20
 clear A20
 by_cases c3 : t629 = true
 ·subst c3
  rw [if_pos rfl] at H
  obtain rfl := jN H
  go_enter Try.func11, Try.ntmps11
  go_wp2_with (first | (go_at_call 37; (with_reducible refine (laws_big.calls _ _ l0 true _ ?side1 ?side2 A2.out).mono ?_); (case side1 => repeat (first | exact HR0.out | (with_reducible refine Kd.C_alloc ?_ _) | (with_reducible refine Kd.C_drewN ?_ _) | (with_reducible refine Kd.C_drew ?_))); (case side2 => exact HC0.out); rintro e w' ⟨rfl, ⟨nd, rfl⟩⟩; (try first | exact ⟨rfl, _, World.drewN_drewN _ _ _⟩ | exact ⟨rfl, _, Eq.trans (World.drewN_drewN _ _ _) (congrArg (World.drewN _) (Nat.add_assoc _ _ _))⟩)))
  go_ret
  exact ⟨ze, zb0 HB⟩
 ·as_aux_lemma =>
  replace c3 := Bool.eq_false_iff.mpr c3
  subst c3
  rw [if_neg zfalse] at H
  replace H := jB.mp H
  obtain ⟨⟨t630, t633, t634, t637, t638, t641, t642⟩, A40, H⟩ := H
  try dsimp only at H
  have A4 := jA A40
  clear A40
  replace H := jB.mp H
  obtain ⟨⟨t645, t646, t649, t650, t653⟩, A50, H⟩ := H
  try dsimp only at H
  have A5 := jA A50
  clear A50
  replace H := jB.mp H
  obtain ⟨⟨t656, t657, t660, t661, t664⟩, A60, H⟩ := H
  try dsimp only at H
  have A6 := jA A60
  clear A60
  replace H := jB.mp H
  obtain ⟨⟨t667, t670, t671, t674⟩, A70, H⟩ := H
  try dsimp only at H
  have A7 := jA A70
  clear A70
  replace H := jB.mp H
  obtain ⟨⟨t676, t677⟩, A80, H⟩ := H
  try dsimp only at H
  have A8 := jA A80
  clear A80
  replace H := jB.mp H
  obtain ⟨⟨t678, t679⟩, A90, H⟩ := H
  try dsimp only at H
  have A9 := jA A90
  clear A90
  replace H := jB.mp H
  obtain ⟨⟨t680, t683, t684, t687, t688⟩, A100, H⟩ := H
  try dsimp only at H
  have A10 := jA A100
  clear A100
  replace H := jB.mp H
  obtain ⟨⟨t690, t691, t694⟩, A110, H⟩ := H
  try dsimp only at H
  have A11 := jA A110
  clear A110
  replace H := jB.mp H
  obtain ⟨⟨t696, t697, t700⟩, A120, H⟩ := H
  try dsimp only at H
  have A12 := jA A120
  clear A120
  have HC13 := jA H
  clear H
  go_enter Try.func11, Try.ntmps11
  go_upto_region 12 with (first | (go_at_call 37; (with_reducible refine (laws_big.calls _ _ l0 false _ ?side1 ?side2 A2.out).mono ?_); (case side1 => repeat (first | exact HR0.out | (with_reducible refine Kd.C_alloc ?_ _) | (with_reducible refine Kd.C_drewN ?_ _) | (with_reducible refine Kd.C_drew ?_))); (case side2 => exact HC0.out); rintro e w' ⟨rfl, ⟨nd, rfl⟩⟩; (try first | exact ⟨rfl, _, World.drewN_drewN _ _ _⟩ | exact ⟨rfl, _, Eq.trans (World.drewN_drewN _ _ _) (congrArg (World.drewN _) (Nat.add_assoc _ _ _))⟩)) | (go_at_call 43; (with_reducible refine (spec_DrawMovePieces.calls k _ _ l0 t630 t633 t634 t637 t638 t641 t642 _ ?side1 ?side2 A4.out).mono ?_); (case side1 => repeat (first | exact HR0.out | (with_reducible refine Kd.C_alloc ?_ _) | (with_reducible refine Kd.C_drewN ?_ _) | (with_reducible refine Kd.C_drew ?_))); (case side2 => exact HC0.out); rintro e w14 ⟨v631, v635, v639, rfl, ho0, ho1, ho2, hb⟩; have HO632 := jA (jU ho0 (jW (zb0 HB))); have HO636 := jA (jU ho1 (jW (zb0 HB))); have HO640 := jA (jU ho2 (jW (zb0 HB))); replace HB := zS0 HB hb; (try clear hb); (try clear hb2); (try clear hk); (try clear hi); (try clear ho0); (try clear ho1); (try clear ho2)) | ((with_reducible refine jJ (N := 4) rfl ?_); (try (refine gate_guard (by rfl) ?_; dsimp only)); refine zE 4 #[.int .i64 0, .slice none 0 0] 28 ?_; intro gb643 hg w15 hbox hb; replace HO632 := jA (jE (zo HO632) hb); replace HO636 := jA (jE (zo HO636) hb); replace HO640 := jA (jE (zo HO640) hb); have BK643 := jA (hbox); have GW643 := zg0 hg HB; have GE643 := zg0 hg HB; replace HB := zS0 HB hb; clear hb hbox hg) | ((with_reducible refine jJ (N := 5) rfl ?_); (try (refine gate_guard (by rfl) ?_; dsimp only)); refine zE 5 #[.int .i64 0, .slice none 0 0] 28 ?_; intro gb644 hg w16 hbox hb; replace HO632 := jA (jE (zo HO632) hb); replace HO636 := jA (jE (zo HO636) hb); replace HO640 := jA (jE (zo HO640) hb); have BK644 := jA (hbox); have GW644 := zg1 hg HB GE643; have GE644 := zg1 hg HB GE643; replace HB := zS1 HB GE643 hb; have NB643_644 := zn hg BK643; replace BK643 := zB BK643 hb; have NB644_643 := jA NB643_644.out.symm; clear hb hbox hg; have hnb17 := NB643_644.out; have hnc17 := NB644_643.out; have hcz18 := zc2 BK643; obtain ⟨Ao19, co19, eo19⟩ := Kd.R_slice HO636.out; subst eo19; have hcz20 := zc2 BK644; obtain ⟨Ao21, co21, eo21⟩ := Kd.R_slice HO640.out; subst eo21; obtain ⟨Ao22, co22, eo22⟩ := Kd.R_slice HO632.out; subst eo22) | (go_at_call 18; (with_reducible refine (impl_MovePieces.calls k _ _ t630 t633 _ _ t634 t637 _ _ t638 t641 t642 t645 t646 t649 t650 t653 _ ?side1 ?side2 ?side3 ?side4 ?side5 ?side6 A5.out).mono ?_); (case side1 => refine (jO (e := 65) (base := w.heap.size) (ok := fun k_ => True) (n := t630.length) (c := co22) ?_).2.2; exact (by (with_reducible repeat (first | apply jR | apply jQ | apply jP)); exact (Kd.R_mono (Kd.R_mono (Kd.R_far (p := ⟨gb644, 1, none⟩) (Kd.R_far (p := ⟨gb644, 0, none⟩) (Kd.R_far (p := ⟨gb643, 1, none⟩) (Kd.R_far (p := ⟨gb643, 0, none⟩) (Kd.R_types (Kd.R_types HO632.out BK643.out (by decide)) BK644.out (by decide)) (fun _ hk => hk.1.2) (.int .i64 t633)) (fun _ hk => hk.1.2) (.slice Ao19 t634.length co19)) (fun _ hk => hk.2) (.int .i64 t637)) (fun _ hk => hk.2) (.slice Ao21 t638.length co21)) (fun _ h_ => h_.1)) (fun _ h_ => h_.1)))); (case side2 => exact (jO HO632.out).2.1); (case side3 => refine (jO (e := 2) (base := w.heap.size) (ok := fun k_ => some k_ ≠ (.slice Ao21 t638.length co21 : Value).ownBlock) (n := t634.length) (c := co19) ?_).2.2; exact (by (with_reducible repeat (first | apply jR | apply jQ | apply jP)); exact (Kd.R_mono (Kd.R_mono (Kd.R_far (p := ⟨gb644, 1, none⟩) (Kd.R_far (p := ⟨gb644, 0, none⟩) (Kd.R_far (p := ⟨gb643, 1, none⟩) (Kd.R_far (p := ⟨gb643, 0, none⟩) (Kd.R_types (Kd.R_types HO636.out BK643.out (by decide)) BK644.out (by decide)) (fun _ hk => hk.1.2) (.int .i64 t633)) (fun _ hk => hk.1.2) (.slice Ao19 t634.length co19)) (fun _ hk => hk.2) (.int .i64 t637)) (fun _ hk => hk.2) (.slice Ao21 t638.length co21)) (fun _ h_ => h_.1)) (fun _ h_ => h_.1)))); (case side4 => exact (jO HO636.out).2.1); (case side5 => refine (jO (e := 2) (base := w.heap.size) (ok := fun k_ => some k_ ≠ (.slice Ao19 t634.length co19 : Value).ownBlock) (n := t638.length) (c := co21) ?_).2.2; exact (by (with_reducible repeat (first | apply jR | apply jQ | apply jP)); exact (Kd.R_mono (Kd.R_mono (Kd.R_far (p := ⟨gb644, 1, none⟩) (Kd.R_far (p := ⟨gb644, 0, none⟩) (Kd.R_far (p := ⟨gb643, 1, none⟩) (Kd.R_far (p := ⟨gb643, 0, none⟩) (Kd.R_types (Kd.R_types HO640.out BK643.out (by decide)) BK644.out (by decide)) (fun _ hk => hk.1.2) (.int .i64 t633)) (fun _ hk => hk.1.2) (.slice Ao19 t634.length co19)) (fun _ hk => hk.2) (.int .i64 t637)) (fun _ hk => hk.2) (.slice Ao21 t638.length co21)) (fun _ h_ => h_.1)) (fun _ h_ => h_.1)))); (case side6 => exact (jO HO640.out).2.1); rintro e w23 ⟨v647, v651, rfl, ho0, ho1, hb⟩; replace HO632 := jA (jE (by (with_reducible repeat (first | apply jR | apply jQ | apply jP)); exact (Kd.R_mono (Kd.R_mono (Kd.R_far (p := ⟨gb644, 1, none⟩) (Kd.R_far (p := ⟨gb644, 0, none⟩) (Kd.R_far (p := ⟨gb643, 1, none⟩) (Kd.R_far (p := ⟨gb643, 0, none⟩) (Kd.R_types (Kd.R_types HO632.out BK643.out (by decide)) BK644.out (by decide)) (fun _ hk => hk.1.2) (.int .i64 t633)) (fun _ hk => hk.1.2) (.slice Ao19 t634.length co19)) (fun _ hk => hk.2) (.int .i64 t637)) (fun _ hk => hk.2) (.slice Ao21 t638.length co21)) (fun _ h_ => h_.1)) (fun _ h_ => h_.1))) hb); have HO648 := jA (jU (Kd.R_new' (Kd.R_new' ho0 (Kd.R_lt (by (with_reducible repeat (first | apply jR | apply jQ | apply jP)); exact (Kd.R_mono (Kd.R_mono (Kd.R_far (p := ⟨gb644, 1, none⟩) (Kd.R_far (p := ⟨gb644, 0, none⟩) (Kd.R_far (p := ⟨gb643, 1, none⟩) (Kd.R_far (p := ⟨gb643, 0, none⟩) (Kd.R_types (Kd.R_types HO636.out BK643.out (by decide)) BK644.out (by decide)) (fun _ hk => hk.1.2) (.int .i64 t633)) (fun _ hk => hk.1.2) (.slice Ao19 t634.length co19)) (fun _ hk => hk.2) (.int .i64 t637)) (fun _ hk => hk.2) (.slice Ao21 t638.length co21)) (fun _ h_ => h_.1)) (fun _ h_ => h_.1))))) (Kd.R_lt (by (with_reducible repeat (first | apply jR | apply jQ | apply jP)); exact (Kd.R_mono (Kd.R_mono (Kd.R_far (p := ⟨gb644, 1, none⟩) (Kd.R_far (p := ⟨gb644, 0, none⟩) (Kd.R_far (p := ⟨gb643, 1, none⟩) (Kd.R_far (p := ⟨gb643, 0, none⟩) (Kd.R_types (Kd.R_types HO640.out BK643.out (by decide)) BK644.out (by decide)) (fun _ hk => hk.1.2) (.int .i64 t633)) (fun _ hk => hk.1.2) (.slice Ao19 t634.length co19)) (fun _ hk => hk.2) (.int .i64 t637)) (fun _ hk => hk.2) (.slice Ao21 t638.length co21)) (fun _ h_ => h_.1)) (fun _ h_ => h_.1))))) (jW (zb2 HB GE643 GE644))); have HO652 := jA (jU (Kd.R_new' (Kd.R_new' ho1 (Kd.R_lt (by (with_reducible repeat (first | apply jR | apply jQ | apply jP)); exact (Kd.R_mono (Kd.R_mono (Kd.R_far (p := ⟨gb644, 1, none⟩) (Kd.R_far (p := ⟨gb644, 0, none⟩) (Kd.R_far (p := ⟨gb643, 1, none⟩) (Kd.R_far (p := ⟨gb643, 0, none⟩) (Kd.R_types (Kd.R_types HO636.out BK643.out (by decide)) BK644.out (by decide)) (fun _ hk => hk.1.2) (.int .i64 t633)) (fun _ hk => hk.1.2) (.slice Ao19 t634.length co19)) (fun _ hk => hk.2) (.int .i64 t637)) (fun _ hk => hk.2) (.slice Ao21 t638.length co21)) (fun _ h_ => h_.1)) (fun _ h_ => h_.1))))) (Kd.R_lt (by (with_reducible repeat (first | apply jR | apply jQ | apply jP)); exact (Kd.R_mono (Kd.R_mono (Kd.R_far (p := ⟨gb644, 1, none⟩) (Kd.R_far (p := ⟨gb644, 0, none⟩) (Kd.R_far (p := ⟨gb643, 1, none⟩) (Kd.R_far (p := ⟨gb643, 0, none⟩) (Kd.R_types (Kd.R_types HO640.out BK643.out (by decide)) BK644.out (by decide)) (fun _ hk => hk.1.2) (.int .i64 t633)) (fun _ hk => hk.1.2) (.slice Ao19 t634.length co19)) (fun _ hk => hk.2) (.int .i64 t637)) (fun _ hk => hk.2) (.slice Ao21 t638.length co21)) (fun _ h_ => h_.1)) (fun _ h_ => h_.1))))) (jW (zb2 HB GE643 GE644))); replace HO636 := jA (Kd.R_mono (Kd.R_told (Kd.R_told (Kd.R_old (by (with_reducible repeat (first | apply jR | apply jQ | apply jP)); exact (Kd.R_mono (Kd.R_mono (Kd.R_far (p := ⟨gb644, 1, none⟩) (Kd.R_far (p := ⟨gb644, 0, none⟩) (Kd.R_far (p := ⟨gb643, 1, none⟩) (Kd.R_far (p := ⟨gb643, 0, none⟩) (Kd.R_types (Kd.R_types HO636.out BK643.out (by decide)) BK644.out (by decide)) (fun _ hk => hk.1.2) (.int .i64 t633)) (fun _ hk => hk.1.2) (.slice Ao19 t634.length co19)) (fun _ hk => hk.2) (.int .i64 t637)) (fun _ hk => hk.2) (.slice Ao21 t638.length co21)) (fun _ h_ => h_.1)) (fun _ h_ => h_.1))) hb) (Kd.R_base ho0)) (Kd.R_base ho1)) (fun _ h_ => h_.1)); replace HO640 := jA (Kd.R_mono (Kd.R_told (Kd.R_told (Kd.R_old (by (with_reducible repeat (first | apply jR | apply jQ | apply jP)); exact (Kd.R_mono (Kd.R_mono (Kd.R_far (p := ⟨gb644, 1, none⟩) (Kd.R_far (p := ⟨gb644, 0, none⟩) (Kd.R_far (p := ⟨gb643, 1, none⟩) (Kd.R_far (p := ⟨gb643, 0, none⟩) (Kd.R_types (Kd.R_types HO640.out BK643.out (by decide)) BK644.out (by decide)) (fun _ hk => hk.1.2) (.int .i64 t633)) (fun _ hk => hk.1.2) (.slice Ao19 t634.length co19)) (fun _ hk => hk.2) (.int .i64 t637)) (fun _ hk => hk.2) (.slice Ao21 t638.length co21)) (fun _ h_ => h_.1)) (fun _ h_ => h_.1))) hb) (Kd.R_base ho0)) (Kd.R_base ho1)) (fun _ h_ => h_.1)); replace BK643 := jA (jT (g := gb643) (o := .cells #[.int .i64 t633, .slice Ao19 t634.length co19] 28 (0, 0)) (zP1 BK643 NB643_644) hb); replace BK644 := jA (jT (g := gb644) (o := .cells #[.int .i64 t637, .slice Ao21 t638.length co21] 28 (0, 0)) (zP1 BK644 NB644_643) hb); replace HB := zS2 HB GE643 GE644 hb; (try clear hb); (try clear hb2); (try clear hk); (try clear hi); (try clear ho0); (try clear ho1)) | ((with_reducible refine jJ (N := 8) rfl ?_); (try (refine gate_guard (by rfl) ?_; dsimp only)); refine zE 8 #[.int .i64 0, .slice none 0 0] 28 ?_; intro gb654 hg w24 hbox hb; replace HO632 := jA (jE (zo HO632) hb); replace HO636 := jA (jE (zo HO636) hb); replace HO640 := jA (jE (zo HO640) hb); replace HO648 := jA (jE (zo HO648) hb); replace HO652 := jA (jE (zo HO652) hb); have BK654 := jA (hbox); have GW654 := zg2 hg HB GE643 GE644; have GE654 := zg2 hg HB GE643 GE644; replace HB := zS2 HB GE643 GE644 hb; have NB643_654 := zn hg BK643; replace BK643 := zB BK643 hb; have NB654_643 := jA NB643_654.out.symm; have NB644_654 := zn hg BK644; replace BK644 := zB BK644 hb; have NB654_644 := jA NB644_654.out.symm; clear hb hbox hg) | ((with_reducible refine jJ (N := 9) rfl ?_); (try (refine gate_guard (by rfl) ?_; dsimp only)); refine zE 9 #[.int .i64 0, .slice none 0 0] 28 ?_; intro gb655 hg w25 hbox hb; replace HO632 := jA (jE (zo HO632) hb); replace HO636 := jA (jE (zo HO636) hb); replace HO640 := jA (jE (zo HO640) hb); replace HO648 := jA (jE (zo HO648) hb); replace HO652 := jA (jE (zo HO652) hb); have BK655 := jA (hbox); have GW655 := zg3 hg HB GE643 GE644 GE654; have GE655 := zg3 hg HB GE643 GE644 GE654; replace HB := zS3 HB GE643 GE644 GE654 hb; have NB643_655 := zn hg BK643; replace BK643 := zB BK643 hb; have NB655_643 := jA NB643_655.out.symm; have NB644_655 := zn hg BK644; replace BK644 := zB BK644 hb; have NB655_644 := jA NB644_655.out.symm; have NB654_655 := zn hg BK654; replace BK654 := zB BK654 hb; have NB655_654 := jA NB654_655.out.symm; clear hb hbox hg; have hnb26 := NB654_643.out; have hnc26 := NB643_654.out; have hnb27 := NB654_644.out; have hnc27 := NB644_654.out; have hnb28 := NB654_655.out; have hnc28 := NB655_654.out; have hcz29 := zc2 BK654; obtain ⟨Ao30, co30, eo30⟩ := Kd.R_slice HO648.out; subst eo30; have hnb31 := NB655_643.out; have hnc31 := NB643_655.out; have hnb32 := NB655_644.out; have hnc32 := NB644_655.out; have hcz33 := zc2 BK655; obtain ⟨Ao34, co34, eo34⟩ := Kd.R_slice HO652.out; subst eo34; have hcz35 := zc2 BK643; have hcz36 := zc2 BK644) | (go_at_call 15; (with_reducible refine (spec_MovePieces.calls k _ _ t630 t633 _ _ t634 t637 _ _ t638 t641 t642 t656 t657 t660 t661 t664 _ ?side1 ?side2 ?side3 ?side4 ?side5 ?side6 A6.out).mono ?_); (case side1 => refine (jO (e := 65) (base := w.heap.size) (ok := fun k_ => True) (n := t630.length) (c := co22) ?_).2.2; exact (by (with_reducible repeat (first | apply jR | apply jQ | apply jP)); exact (Kd.R_mono (Kd.R_mono (Kd.R_far (p := ⟨gb655, 1, none⟩) (Kd.R_far (p := ⟨gb655, 0, none⟩) (Kd.R_far (p := ⟨gb654, 1, none⟩) (Kd.R_far (p := ⟨gb654, 0, none⟩) (Kd.R_types (Kd.R_types HO632.out BK654.out (by decide)) BK655.out (by decide)) (fun _ hk => hk.1.2) (.int .i64 t645)) (fun _ hk => hk.1.2) (.slice Ao30 t646.length co30)) (fun _ hk => hk.2) (.int .i64 t649)) (fun _ hk => hk.2) (.slice Ao34 t650.length co34)) (fun _ h_ => h_.1)) (fun _ h_ => h_.1)))); (case side2 => exact (jO HO632.out).2.1); (case side3 => refine (jO (e := 2) (base := w.heap.size) (ok := fun k_ => ((some k_ ≠ (.slice Ao21 t638.length co21 : Value).ownBlock ∧ some k_ ≠ (.slice Ao30 t646.length co30 : Value).ownBlock) ∧ some k_ ≠ (.slice Ao34 t650.length co34 : Value).ownBlock)) (n := t634.length) (c := co19) ?_).2.2; exact (by (with_reducible repeat (first | apply jR | apply jQ | apply jP)); exact (Kd.R_mono (Kd.R_mono (Kd.R_far (p := ⟨gb655, 1, none⟩) (Kd.R_far (p := ⟨gb655, 0, none⟩) (Kd.R_far (p := ⟨gb654, 1, none⟩) (Kd.R_far (p := ⟨gb654, 0, none⟩) (Kd.R_types (Kd.R_types HO636.out BK654.out (by decide)) BK655.out (by decide)) (fun _ hk => hk.1.2) (.int .i64 t645)) (fun _ hk => hk.1.2) (.slice Ao30 t646.length co30)) (fun _ hk => hk.2) (.int .i64 t649)) (fun _ hk => hk.2) (.slice Ao34 t650.length co34)) (fun _ h_ => h_.1)) (fun _ h_ => h_.1)))); (case side4 => exact (jO HO636.out).2.1); (case side5 => refine (jO (e := 2) (base := w.heap.size) (ok := fun k_ => ((some k_ ≠ (.slice Ao19 t634.length co19 : Value).ownBlock ∧ some k_ ≠ (.slice Ao30 t646.length co30 : Value).ownBlock) ∧ some k_ ≠ (.slice Ao34 t650.length co34 : Value).ownBlock)) (n := t638.length) (c := co21) ?_).2.2; exact (by (with_reducible repeat (first | apply jR | apply jQ | apply jP)); exact (Kd.R_mono (Kd.R_mono (Kd.R_far (p := ⟨gb655, 1, none⟩) (Kd.R_far (p := ⟨gb655, 0, none⟩) (Kd.R_far (p := ⟨gb654, 1, none⟩) (Kd.R_far (p := ⟨gb654, 0, none⟩) (Kd.R_types (Kd.R_types HO640.out BK654.out (by decide)) BK655.out (by decide)) (fun _ hk => hk.1.2) (.int .i64 t645)) (fun _ hk => hk.1.2) (.slice Ao30 t646.length co30)) (fun _ hk => hk.2) (.int .i64 t649)) (fun _ hk => hk.2) (.slice Ao34 t650.length co34)) (fun _ h_ => h_.1)) (fun _ h_ => h_.1)))); (case side6 => exact (jO HO640.out).2.1); rintro e w37 ⟨v658, v662, rfl, ho0, ho1, hb⟩; replace HO632 := jA (jE (by (with_reducible repeat (first | apply jR | apply jQ | apply jP)); exact (Kd.R_mono (Kd.R_mono (Kd.R_far (p := ⟨gb655, 1, none⟩) (Kd.R_far (p := ⟨gb655, 0, none⟩) (Kd.R_far (p := ⟨gb654, 1, none⟩) (Kd.R_far (p := ⟨gb654, 0, none⟩) (Kd.R_types (Kd.R_types HO632.out BK654.out (by decide)) BK655.out (by decide)) (fun _ hk => hk.1.2) (.int .i64 t645)) (fun _ hk => hk.1.2) (.slice Ao30 t646.length co30)) (fun _ hk => hk.2) (.int .i64 t649)) (fun _ hk => hk.2) (.slice Ao34 t650.length co34)) (fun _ h_ => h_.1)) (fun _ h_ => h_.1))) hb); have HO659 := jA (jU (Kd.R_new' (Kd.R_new' (Kd.R_new' (Kd.R_new' ho0 (Kd.R_lt (by (with_reducible repeat (first | apply jR | apply jQ | apply jP)); exact (Kd.R_mono (Kd.R_mono (Kd.R_far (p := ⟨gb655, 1, none⟩) (Kd.R_far (p := ⟨gb655, 0, none⟩) (Kd.R_far (p := ⟨gb654, 1, none⟩) (Kd.R_far (p := ⟨gb654, 0, none⟩) (Kd.R_types (Kd.R_types HO636.out BK654.out (by decide)) BK655.out (by decide)) (fun _ hk => hk.1.2) (.int .i64 t645)) (fun _ hk => hk.1.2) (.slice Ao30 t646.length co30)) (fun _ hk => hk.2) (.int .i64 t649)) (fun _ hk => hk.2) (.slice Ao34 t650.length co34)) (fun _ h_ => h_.1)) (fun _ h_ => h_.1))))) (Kd.R_lt (by (with_reducible repeat (first | apply jR | apply jQ | apply jP)); exact (Kd.R_mono (Kd.R_mono (Kd.R_far (p := ⟨gb655, 1, none⟩) (Kd.R_far (p := ⟨gb655, 0, none⟩) (Kd.R_far (p := ⟨gb654, 1, none⟩) (Kd.R_far (p := ⟨gb654, 0, none⟩) (Kd.R_types (Kd.R_types HO640.out BK654.out (by decide)) BK655.out (by decide)) (fun _ hk => hk.1.2) (.int .i64 t645)) (fun _ hk => hk.1.2) (.slice Ao30 t646.length co30)) (fun _ hk => hk.2) (.int .i64 t649)) (fun _ hk => hk.2) (.slice Ao34 t650.length co34)) (fun _ h_ => h_.1)) (fun _ h_ => h_.1))))) (Kd.R_lt (by (with_reducible repeat (first | apply jR | apply jQ | apply jP)); exact (Kd.R_mono (Kd.R_mono (Kd.R_far (p := ⟨gb655, 1, none⟩) (Kd.R_far (p := ⟨gb655, 0, none⟩) (Kd.R_far (p := ⟨gb654, 1, none⟩) (Kd.R_far (p := ⟨gb654, 0, none⟩) (Kd.R_types (Kd.R_types HO648.out BK654.out (by decide)) BK655.out (by decide)) (fun _ hk => hk.1.2) (.int .i64 t645)) (fun _ hk => hk.1.2) (.slice Ao30 t646.length co30)) (fun _ hk => hk.2) (.int .i64 t649)) (fun _ hk => hk.2) (.slice Ao34 t650.length co34)) (fun _ h_ => h_.1)) (fun _ h_ => h_.1))))) (Kd.R_lt (by (with_reducible repeat (first | apply jR | apply jQ | apply jP)); exact (Kd.R_mono (Kd.R_mono (Kd.R_far (p := ⟨gb655, 1, none⟩) (Kd.R_far (p := ⟨gb655, 0, none⟩) (Kd.R_far (p := ⟨gb654, 1, none⟩) (Kd.R_far (p := ⟨gb654, 0, none⟩) (Kd.R_types (Kd.R_types HO652.out BK654.out (by decide)) BK655.out (by decide)) (fun _ hk => hk.1.2) (.int .i64 t645)) (fun _ hk => hk.1.2) (.slice Ao30 t646.length co30)) (fun _ hk => hk.2) (.int .i64 t649)) (fun _ hk => hk.2) (.slice Ao34 t650.length co34)) (fun _ h_ => h_.1)) (fun _ h_ => h_.1))))) (jW (zb4 HB GE643 GE644 GE654 GE655))); have HO663 := jA (jU (Kd.R_new' (Kd.R_new' (Kd.R_new' (Kd.R_new' ho1 (Kd.R_lt (by (with_reducible repeat (first | apply jR | apply jQ | apply jP)); exact (Kd.R_mono (Kd.R_mono (Kd.R_far (p := ⟨gb655, 1, none⟩) (Kd.R_far (p := ⟨gb655, 0, none⟩) (Kd.R_far (p := ⟨gb654, 1, none⟩) (Kd.R_far (p := ⟨gb654, 0, none⟩) (Kd.R_types (Kd.R_types HO636.out BK654.out (by decide)) BK655.out (by decide)) (fun _ hk => hk.1.2) (.int .i64 t645)) (fun _ hk => hk.1.2) (.slice Ao30 t646.length co30)) (fun _ hk => hk.2) (.int .i64 t649)) (fun _ hk => hk.2) (.slice Ao34 t650.length co34)) (fun _ h_ => h_.1)) (fun _ h_ => h_.1))))) (Kd.R_lt (by (with_reducible repeat (first | apply jR | apply jQ | apply jP)); exact (Kd.R_mono (Kd.R_mono (Kd.R_far (p := ⟨gb655, 1, none⟩) (Kd.R_far (p := ⟨gb655, 0, none⟩) (Kd.R_far (p := ⟨gb654, 1, none⟩) (Kd.R_far (p := ⟨gb654, 0, none⟩) (Kd.R_types (Kd.R_types HO640.out BK654.out (by decide)) BK655.out (by decide)) (fun _ hk => hk.1.2) (.int .i64 t645)) (fun _ hk => hk.1.2) (.slice Ao30 t646.length co30)) (fun _ hk => hk.2) (.int .i64 t649)) (fun _ hk => hk.2) (.slice Ao34 t650.length co34)) (fun _ h_ => h_.1)) (fun _ h_ => h_.1))))) (Kd.R_lt (by (with_reducible repeat (first | apply jR | apply jQ | apply jP)); exact (Kd.R_mono (Kd.R_mono (Kd.R_far (p := ⟨gb655, 1, none⟩) (Kd.R_far (p := ⟨gb655, 0, none⟩) (Kd.R_far (p := ⟨gb654, 1, none⟩) (Kd.R_far (p := ⟨gb654, 0, none⟩) (Kd.R_types (Kd.R_types HO648.out BK654.out (by decide)) BK655.out (by decide)) (fun _ hk => hk.1.2) (.int .i64 t645)) (fun _ hk => hk.1.2) (.slice Ao30 t646.length co30)) (fun _ hk => hk.2) (.int .i64 t649)) (fun _ hk => hk.2) (.slice Ao34 t650.length co34)) (fun _ h_ => h_.1)) (fun _ h_ => h_.1))))) (Kd.R_lt (by (with_reducible repeat (first | apply jR | apply jQ | apply jP)); exact (Kd.R_mono (Kd.R_mono (Kd.R_far (p := ⟨gb655, 1, none⟩) (Kd.R_far (p := ⟨gb655, 0, none⟩) (Kd.R_far (p := ⟨gb654, 1, none⟩) (Kd.R_far (p := ⟨gb654, 0, none⟩) (Kd.R_types (Kd.R_types HO652.out BK654.out (by decide)) BK655.out (by decide)) (fun _ hk => hk.1.2) (.int .i64 t645)) (fun _ hk => hk.1.2) (.slice Ao30 t646.length co30)) (fun _ hk => hk.2) (.int .i64 t649)) (fun _ hk => hk.2) (.slice Ao34 t650.length co34)) (fun _ h_ => h_.1)) (fun _ h_ => h_.1))))) (jW (zb4 HB GE643 GE644 GE654 GE655))); replace HO636 := jA (Kd.R_mono (Kd.R_told (Kd.R_told (Kd.R_old (by (with_reducible repeat (first | apply jR | apply jQ | apply jP)); exact (Kd.R_mono (Kd.R_mono (Kd.R_far (p := ⟨gb655, 1, none⟩) (Kd.R_far (p := ⟨gb655, 0, none⟩) (Kd.R_far (p := ⟨gb654, 1, none⟩) (Kd.R_far (p := ⟨gb654, 0, none⟩) (Kd.R_types (Kd.R_types HO636.out BK654.out (by decide)) BK655.out (by decide)) (fun _ hk => hk.1.2) (.int .i64 t645)) (fun _ hk => hk.1.2) (.slice Ao30 t646.length co30)) (fun _ hk => hk.2) (.int .i64 t649)) (fun _ hk => hk.2) (.slice Ao34 t650.length co34)) (fun _ h_ => h_.1)) (fun _ h_ => h_.1))) hb) (Kd.R_base ho0)) (Kd.R_base ho1)) (fun _ h_ => h_.1)); replace HO640 := jA (Kd.R_mono (Kd.R_told (Kd.R_told (Kd.R_old (by (with_reducible repeat (first | apply jR | apply jQ | apply jP)); exact (Kd.R_mono (Kd.R_mono (Kd.R_far (p := ⟨gb655, 1, none⟩) (Kd.R_far (p := ⟨gb655, 0, none⟩) (Kd.R_far (p := ⟨gb654, 1, none⟩) (Kd.R_far (p := ⟨gb654, 0, none⟩) (Kd.R_types (Kd.R_types HO640.out BK654.out (by decide)) BK655.out (by decide)) (fun _ hk => hk.1.2) (.int .i64 t645)) (fun _ hk => hk.1.2) (.slice Ao30 t646.length co30)) (fun _ hk => hk.2) (.int .i64 t649)) (fun _ hk => hk.2) (.slice Ao34 t650.length co34)) (fun _ h_ => h_.1)) (fun _ h_ => h_.1))) hb) (Kd.R_base ho0)) (Kd.R_base ho1)) (fun _ h_ => h_.1)); replace HO648 := jA (Kd.R_mono (Kd.R_told (Kd.R_told (Kd.R_old (by (with_reducible repeat (first | apply jR | apply jQ | apply jP)); exact (Kd.R_mono (Kd.R_mono (Kd.R_far (p := ⟨gb655, 1, none⟩) (Kd.R_far (p := ⟨gb655, 0, none⟩) (Kd.R_far (p := ⟨gb654, 1, none⟩) (Kd.R_far (p := ⟨gb654, 0, none⟩) (Kd.R_types (Kd.R_types HO648.out BK654.out (by decide)) BK655.out (by decide)) (fun _ hk => hk.1.2) (.int .i64 t645)) (fun _ hk => hk.1.2) (.slice Ao30 t646.length co30)) (fun _ hk => hk.2) (.int .i64 t649)) (fun _ hk => hk.2) (.slice Ao34 t650.length co34)) (fun _ h_ => h_.1)) (fun _ h_ => h_.1))) hb) (Kd.R_base ho0)) (Kd.R_base ho1)) (fun _ h_ => h_.1)); replace HO652 := jA (Kd.R_mono (Kd.R_told (Kd.R_told (Kd.R_old (by (with_reducible repeat (first | apply jR | apply jQ | apply jP)); exact (Kd.R_mono (Kd.R_mono (Kd.R_far (p := ⟨gb655, 1, none⟩) (Kd.R_far (p := ⟨gb655, 0, none⟩) (Kd.R_far (p := ⟨gb654, 1, none⟩) (Kd.R_far (p := ⟨gb654, 0, none⟩) (Kd.R_types (Kd.R_types HO652.out BK654.out (by decide)) BK655.out (by decide)) (fun _ hk => hk.1.2) (.int .i64 t645)) (fun _ hk => hk.1.2) (.slice Ao30 t646.length co30)) (fun _ hk => hk.2) (.int .i64 t649)) (fun _ hk => hk.2) (.slice Ao34 t650.length co34)) (fun _ h_ => h_.1)) (fun _ h_ => h_.1))) hb) (Kd.R_base ho0)) (Kd.R_base ho1)) (fun _ h_ => h_.1)); replace BK643 := jA (jT (g := gb643) (o := .cells #[.int .i64 t633, .slice Ao19 t634.length co19] 28 (0, 0)) (zQ2 BK643 NB643_655 NB643_654) hb); replace BK644 := jA (jT (g := gb644) (o := .cells #[.int .i64 t637, .slice Ao21 t638.length co21] 28 (0, 0)) (zQ2 BK644 NB644_655 NB644_654) hb); replace BK654 := jA (jT (g := gb654) (o := .cells #[.int .i64 t645, .slice Ao30 t646.length co30] 28 (0, 0)) (zP1 BK654 NB654_655) hb); replace BK655 := jA (jT (g := gb655) (o := .cells #[.int .i64 t649, .slice Ao34 t650.length co34] 28 (0, 0)) (zP1 BK655 NB655_654) hb); replace HB := zS4 HB GE643 GE644 GE654 GE655 hb; (try clear hb); (try clear hb2); (try clear hk); (try clear hi); (try clear ho0); (try clear ho1)) | ((with_reducible refine jJ (N := 11) rfl ?_); (try (refine gate_guard (by rfl) ?_; dsimp only)); refine zE 11 #[.int .i64 0, .slice none 0 0] 28 ?_; intro gb665 hg w38 hbox hb; replace HO632 := jA (jE (zo HO632) hb); replace HO636 := jA (jE (zo HO636) hb); replace HO640 := jA (jE (zo HO640) hb); replace HO648 := jA (jE (zo HO648) hb); replace HO652 := jA (jE (zo HO652) hb); replace HO659 := jA (jE (zo HO659) hb); replace HO663 := jA (jE (zo HO663) hb); have BK665 := jA (hbox); have GW665 := zg4 hg HB GE643 GE644 GE654 GE655; have GE665 := zg4 hg HB GE643 GE644 GE654 GE655; replace HB := zS4 HB GE643 GE644 GE654 GE655 hb; have NB643_665 := zn hg BK643; replace BK643 := zB BK643 hb; have NB665_643 := jA NB643_665.out.symm; have NB644_665 := zn hg BK644; replace BK644 := zB BK644 hb; have NB665_644 := jA NB644_665.out.symm; have NB654_665 := zn hg BK654; replace BK654 := zB BK654 hb; have NB665_654 := jA NB654_665.out.symm; have NB655_665 := zn hg BK655; replace BK655 := zB BK655 hb; have NB665_655 := jA NB655_665.out.symm; clear hb hbox hg) | ((with_reducible refine jJ (N := 12) rfl ?_); (try (refine gate_guard (by rfl) ?_; dsimp only)); refine zE 12 #[.int .i64 0, .slice none 0 0] 28 ?_; intro gb666 hg w39 hbox hb; replace HO632 := jA (jE (zo HO632) hb); replace HO636 := jA (jE (zo HO636) hb); replace HO640 := jA (jE (zo HO640) hb); replace HO648 := jA (jE (zo HO648) hb); replace HO652 := jA (jE (zo HO652) hb); replace HO659 := jA (jE (zo HO659) hb); replace HO663 := jA (jE (zo HO663) hb); have BK666 := jA (hbox); have GW666 := zg5 hg HB GE643 GE644 GE654 GE655 GE665; have GE666 := zg5 hg HB GE643 GE644 GE654 GE655 GE665; replace HB := zS5 HB GE643 GE644 GE654 GE655 GE665 hb; have NB643_666 := zn hg BK643; replace BK643 := zB BK643 hb; have NB666_643 := jA NB643_666.out.symm; have NB644_666 := zn hg BK644; replace BK644 := zB BK644 hb; have NB666_644 := jA NB644_666.out.symm; have NB654_666 := zn hg BK654; replace BK654 := zB BK654 hb; have NB666_654 := jA NB654_666.out.symm; have NB655_666 := zn hg BK655; replace BK655 := zB BK655 hb; have NB666_655 := jA NB655_666.out.symm; have NB665_666 := zn hg BK665; replace BK665 := zB BK665 hb; have NB666_665 := jA NB665_666.out.symm; clear hb hbox hg; have hnb40 := NB665_643.out; have hnc40 := NB643_665.out; have hnb41 := NB665_644.out; have hnc41 := NB644_665.out; have hnb42 := NB665_654.out; have hnc42 := NB654_665.out; have hnb43 := NB665_655.out; have hnc43 := NB655_665.out; have hnb44 := NB665_666.out; have hnc44 := NB666_665.out; have hcz45 := zc2 BK665; obtain ⟨Ao46, co46, eo46⟩ := Kd.R_slice HO659.out; subst eo46; have hnb47 := NB666_643.out; have hnc47 := NB643_666.out; have hnb48 := NB666_644.out; have hnc48 := NB644_666.out; have hnb49 := NB666_654.out; have hnc49 := NB654_666.out; have hnb50 := NB666_655.out; have hnc50 := NB655_666.out; have hcz51 := zc2 BK666; obtain ⟨Ao52, co52, eo52⟩ := Kd.R_slice HO663.out; subst eo52) | (go_at_call 44; (with_reducible refine (spec_DrawRoomFor.calls k _ _ l0 t667 t670 t671 t674 _ ?side1 ?side2 A7.out).mono ?_); (case side1 => exact Kd.C_below HR0.out (zb6 HB GE643 GE644 GE654 GE655 GE665 GE666)); (case side2 => exact HC0.out); rintro e w53 ⟨v668, v672, rfl, ho0, ho1, hb⟩; have HO669 := jA (jU (Kd.R_new' ho0 (Kd.R_lt (by (with_reducible repeat (first | apply jR | apply jQ | apply jP)); exact (Kd.R_mono (Kd.R_mono (Kd.R_far (p := ⟨gb666, 1, none⟩) (Kd.R_far (p := ⟨gb666, 0, none⟩) (Kd.R_far (p := ⟨gb665, 1, none⟩) (Kd.R_far (p := ⟨gb665, 0, none⟩) (Kd.R_types (Kd.R_types HO632.out BK665.out (by decide)) BK666.out (by decide)) (fun _ hk => hk.1.2) (.int .i64 t656)) (fun _ hk => hk.1.2) (.slice Ao46 t657.length co46)) (fun _ hk => hk.2) (.int .i64 t660)) (fun _ hk => hk.2) (.slice Ao52 t661.length co52)) (fun _ h_ => h_.1)) (fun _ h_ => h_.1))))) (jW (zb6 HB GE643 GE644 GE654 GE655 GE665 GE666))); replace HO632 := jA (Kd.R_elder' (by (with_reducible repeat (first | apply jR | apply jQ | apply jP)); exact (Kd.R_mono (Kd.R_mono (Kd.R_far (p := ⟨gb666, 1, none⟩) (Kd.R_far (p := ⟨gb666, 0, none⟩) (Kd.R_far (p := ⟨gb665, 1, none⟩) (Kd.R_far (p := ⟨gb665, 0, none⟩) (Kd.R_types (Kd.R_types HO632.out BK665.out (by decide)) BK666.out (by decide)) (fun _ hk => hk.1.2) (.int .i64 t656)) (fun _ hk => hk.1.2) (.slice Ao46 t657.length co46)) (fun _ hk => hk.2) (.int .i64 t660)) (fun _ hk => hk.2) (.slice Ao52 t661.length co52)) (fun _ h_ => h_.1)) (fun _ h_ => h_.1))) (Kd.R_base ho0) hb); have HO673 := jA (jU (Kd.R_new' (Kd.R_new' (Kd.R_new' (Kd.R_new' (Kd.R_new' (Kd.R_new' ho1 (Kd.R_lt (by (with_reducible repeat (first | apply jR | apply jQ | apply jP)); exact (Kd.R_mono (Kd.R_mono (Kd.R_far (p := ⟨gb666, 1, none⟩) (Kd.R_far (p := ⟨gb666, 0, none⟩) (Kd.R_far (p := ⟨gb665, 1, none⟩) (Kd.R_far (p := ⟨gb665, 0, none⟩) (Kd.R_types (Kd.R_types HO636.out BK665.out (by decide)) BK666.out (by decide)) (fun _ hk => hk.1.2) (.int .i64 t656)) (fun _ hk => hk.1.2) (.slice Ao46 t657.length co46)) (fun _ hk => hk.2) (.int .i64 t660)) (fun _ hk => hk.2) (.slice Ao52 t661.length co52)) (fun _ h_ => h_.1)) (fun _ h_ => h_.1))))) (Kd.R_lt (by (with_reducible repeat (first | apply jR | apply jQ | apply jP)); exact (Kd.R_mono (Kd.R_mono (Kd.R_far (p := ⟨gb666, 1, none⟩) (Kd.R_far (p := ⟨gb666, 0, none⟩) (Kd.R_far (p := ⟨gb665, 1, none⟩) (Kd.R_far (p := ⟨gb665, 0, none⟩) (Kd.R_types (Kd.R_types HO640.out BK665.out (by decide)) BK666.out (by decide)) (fun _ hk => hk.1.2) (.int .i64 t656)) (fun _ hk => hk.1.2) (.slice Ao46 t657.length co46)) (fun _ hk => hk.2) (.int .i64 t660)) (fun _ hk => hk.2) (.slice Ao52 t661.length co52)) (fun _ h_ => h_.1)) (fun _ h_ => h_.1))))) (Kd.R_lt (by (with_reducible repeat (first | apply jR | apply jQ | apply jP)); exact (Kd.R_mono (Kd.R_mono (Kd.R_far (p := ⟨gb666, 1, none⟩) (Kd.R_far (p := ⟨gb666, 0, none⟩) (Kd.R_far (p := ⟨gb665, 1, none⟩) (Kd.R_far (p := ⟨gb665, 0, none⟩) (Kd.R_types (Kd.R_types HO648.out BK665.out (by decide)) BK666.out (by decide)) (fun _ hk => hk.1.2) (.int .i64 t656)) (fun _ hk => hk.1.2) (.slice Ao46 t657.length co46)) (fun _ hk => hk.2) (.int .i64 t660)) (fun _ hk => hk.2) (.slice Ao52 t661.length co52)) (fun _ h_ => h_.1)) (fun _ h_ => h_.1))))) (Kd.R_lt (by (with_reducible repeat (first | apply jR | apply jQ | apply jP)); exact (Kd.R_mono (Kd.R_mono (Kd.R_far (p := ⟨gb666, 1, none⟩) (Kd.R_far (p := ⟨gb666, 0, none⟩) (Kd.R_far (p := ⟨gb665, 1, none⟩) (Kd.R_far (p := ⟨gb665, 0, none⟩) (Kd.R_types (Kd.R_types HO652.out BK665.out (by decide)) BK666.out (by decide)) (fun _ hk => hk.1.2) (.int .i64 t656)) (fun _ hk => hk.1.2) (.slice Ao46 t657.length co46)) (fun _ hk => hk.2) (.int .i64 t660)) (fun _ hk => hk.2) (.slice Ao52 t661.length co52)) (fun _ h_ => h_.1)) (fun _ h_ => h_.1))))) (Kd.R_lt (by (with_reducible repeat (first | apply jR | apply jQ | apply jP)); exact (Kd.R_mono (Kd.R_mono (Kd.R_far (p := ⟨gb666, 1, none⟩) (Kd.R_far (p := ⟨gb666, 0, none⟩) (Kd.R_far (p := ⟨gb665, 1, none⟩) (Kd.R_far (p := ⟨gb665, 0, none⟩) (Kd.R_types (Kd.R_types HO659.out BK665.out (by decide)) BK666.out (by decide)) (fun _ hk => hk.1.2) (.int .i64 t656)) (fun _ hk => hk.1.2) (.slice Ao46 t657.length co46)) (fun _ hk => hk.2) (.int .i64 t660)) (fun _ hk => hk.2) (.slice Ao52 t661.length co52)) (fun _ h_ => h_.1)) (fun _ h_ => h_.1))))) (Kd.R_lt (by (with_reducible repeat (first | apply jR | apply jQ | apply jP)); exact (Kd.R_mono (Kd.R_mono (Kd.R_far (p := ⟨gb666, 1, none⟩) (Kd.R_far (p := ⟨gb666, 0, none⟩) (Kd.R_far (p := ⟨gb665, 1, none⟩) (Kd.R_far (p := ⟨gb665, 0, none⟩) (Kd.R_types (Kd.R_types HO663.out BK665.out (by decide)) BK666.out (by decide)) (fun _ hk => hk.1.2) (.int .i64 t656)) (fun _ hk => hk.1.2) (.slice Ao46 t657.length co46)) (fun _ hk => hk.2) (.int .i64 t660)) (fun _ hk => hk.2) (.slice Ao52 t661.length co52)) (fun _ h_ => h_.1)) (fun _ h_ => h_.1))))) (jW (zb6 HB GE643 GE644 GE654 GE655 GE665 GE666))); replace HO636 := jA (Kd.R_elder' (by (with_reducible repeat (first | apply jR | apply jQ | apply jP)); exact (Kd.R_mono (Kd.R_mono (Kd.R_far (p := ⟨gb666, 1, none⟩) (Kd.R_far (p := ⟨gb666, 0, none⟩) (Kd.R_far (p := ⟨gb665, 1, none⟩) (Kd.R_far (p := ⟨gb665, 0, none⟩) (Kd.R_types (Kd.R_types HO636.out BK665.out (by decide)) BK666.out (by decide)) (fun _ hk => hk.1.2) (.int .i64 t656)) (fun _ hk => hk.1.2) (.slice Ao46 t657.length co46)) (fun _ hk => hk.2) (.int .i64 t660)) (fun _ hk => hk.2) (.slice Ao52 t661.length co52)) (fun _ h_ => h_.1)) (fun _ h_ => h_.1))) (Kd.R_base ho1) hb); replace HO640 := jA (Kd.R_elder' (by (with_reducible repeat (first | apply jR | apply jQ | apply jP)); exact (Kd.R_mono (Kd.R_mono (Kd.R_far (p := ⟨gb666, 1, none⟩) (Kd.R_far (p := ⟨gb666, 0, none⟩) (Kd.R_far (p := ⟨gb665, 1, none⟩) (Kd.R_far (p := ⟨gb665, 0, none⟩) (Kd.R_types (Kd.R_types HO640.out BK665.out (by decide)) BK666.out (by decide)) (fun _ hk => hk.1.2) (.int .i64 t656)) (fun _ hk => hk.1.2) (.slice Ao46 t657.length co46)) (fun _ hk => hk.2) (.int .i64 t660)) (fun _ hk => hk.2) (.slice Ao52 t661.length co52)) (fun _ h_ => h_.1)) (fun _ h_ => h_.1))) (Kd.R_base ho1) hb); replace HO648 := jA (Kd.R_elder' (by (with_reducible repeat (first | apply jR | apply jQ | apply jP)); exact (Kd.R_mono (Kd.R_mono (Kd.R_far (p := ⟨gb666, 1, none⟩) (Kd.R_far (p := ⟨gb666, 0, none⟩) (Kd.R_far (p := ⟨gb665, 1, none⟩) (Kd.R_far (p := ⟨gb665, 0, none⟩) (Kd.R_types (Kd.R_types HO648.out BK665.out (by decide)) BK666.out (by decide)) (fun _ hk => hk.1.2) (.int .i64 t656)) (fun _ hk => hk.1.2) (.slice Ao46 t657.length co46)) (fun _ hk => hk.2) (.int .i64 t660)) (fun _ hk => hk.2) (.slice Ao52 t661.length co52)) (fun _ h_ => h_.1)) (fun _ h_ => h_.1))) (Kd.R_base ho1) hb); replace HO652 := jA (Kd.R_elder' (by (with_reducible repeat (first | apply jR | apply jQ | apply jP)); exact (Kd.R_mono (Kd.R_mono (Kd.R_far (p := ⟨gb666, 1, none⟩) (Kd.R_far (p := ⟨gb666, 0, none⟩) (Kd.R_far (p := ⟨gb665, 1, none⟩) (Kd.R_far (p := ⟨gb665, 0, none⟩) (Kd.R_types (Kd.R_types HO652.out BK665.out (by decide)) BK666.out (by decide)) (fun _ hk => hk.1.2) (.int .i64 t656)) (fun _ hk => hk.1.2) (.slice Ao46 t657.length co46)) (fun _ hk => hk.2) (.int .i64 t660)) (fun _ hk => hk.2) (.slice Ao52 t661.length co52)) (fun _ h_ => h_.1)) (fun _ h_ => h_.1))) (Kd.R_base ho1) hb); replace HO659 := jA (Kd.R_elder' (by (with_reducible repeat (first | apply jR | apply jQ | apply jP)); exact (Kd.R_mono (Kd.R_mono (Kd.R_far (p := ⟨gb666, 1, none⟩) (Kd.R_far (p := ⟨gb666, 0, none⟩) (Kd.R_far (p := ⟨gb665, 1, none⟩) (Kd.R_far (p := ⟨gb665, 0, none⟩) (Kd.R_types (Kd.R_types HO659.out BK665.out (by decide)) BK666.out (by decide)) (fun _ hk => hk.1.2) (.int .i64 t656)) (fun _ hk => hk.1.2) (.slice Ao46 t657.length co46)) (fun _ hk => hk.2) (.int .i64 t660)) (fun _ hk => hk.2) (.slice Ao52 t661.length co52)) (fun _ h_ => h_.1)) (fun _ h_ => h_.1))) (Kd.R_base ho1) hb); replace HO663 := jA (Kd.R_elder' (by (with_reducible repeat (first | apply jR | apply jQ | apply jP)); exact (Kd.R_mono (Kd.R_mono (Kd.R_far (p := ⟨gb666, 1, none⟩) (Kd.R_far (p := ⟨gb666, 0, none⟩) (Kd.R_far (p := ⟨gb665, 1, none⟩) (Kd.R_far (p := ⟨gb665, 0, none⟩) (Kd.R_types (Kd.R_types HO663.out BK665.out (by decide)) BK666.out (by decide)) (fun _ hk => hk.1.2) (.int .i64 t656)) (fun _ hk => hk.1.2) (.slice Ao46 t657.length co46)) (fun _ hk => hk.2) (.int .i64 t660)) (fun _ hk => hk.2) (.slice Ao52 t661.length co52)) (fun _ h_ => h_.1)) (fun _ h_ => h_.1))) (Kd.R_base ho1) hb); replace BK643 := jA (jT (g := gb643) (o := .cells #[.int .i64 t633, .slice Ao19 t634.length co19] 28 (0, 0)) (zQ2 BK643 NB643_666 NB643_665) hb); replace BK644 := jA (jT (g := gb644) (o := .cells #[.int .i64 t637, .slice Ao21 t638.length co21] 28 (0, 0)) (zQ2 BK644 NB644_666 NB644_665) hb); replace BK654 := jA (jT (g := gb654) (o := .cells #[.int .i64 t645, .slice Ao30 t646.length co30] 28 (0, 0)) (zQ2 BK654 NB654_666 NB654_665) hb); replace BK655 := jA (jT (g := gb655) (o := .cells #[.int .i64 t649, .slice Ao34 t650.length co34] 28 (0, 0)) (zQ2 BK655 NB655_666 NB655_665) hb); replace BK665 := jA (jT (g := gb665) (o := .cells #[.int .i64 t656, .slice Ao46 t657.length co46] 28 (0, 0)) (zP1 BK665 NB665_666) hb); replace BK666 := jA (jT (g := gb666) (o := .cells #[.int .i64 t660, .slice Ao52 t661.length co52] 28 (0, 0)) (zP1 BK666 NB666_665) hb); replace HB := zS6 HB GE643 GE644 GE654 GE655 GE665 GE666 hb; (try clear hb); (try clear hb2); (try clear hk); (try clear hi); (try clear ho0); (try clear ho1)) | ((with_reducible refine jJ (N := 15) rfl ?_); (try (refine gate_guard (by rfl) ?_; dsimp only)); refine zE 15 #[.int .i64 0, .slice none 0 0] 28 ?_; intro gb675 hg w54 hbox hb; replace HO632 := jA (jE (zo HO632) hb); replace HO636 := jA (jE (zo HO636) hb); replace HO640 := jA (jE (zo HO640) hb); replace HO648 := jA (jE (zo HO648) hb); replace HO652 := jA (jE (zo HO652) hb); replace HO659 := jA (jE (zo HO659) hb); replace HO663 := jA (jE (zo HO663) hb); replace HO669 := jA (jE (zo HO669) hb); replace HO673 := jA (jE (zo HO673) hb); have BK675 := jA (hbox); have GW675 := zg6 hg HB GE643 GE644 GE654 GE655 GE665 GE666; have GE675 := zg6 hg HB GE643 GE644 GE654 GE655 GE665 GE666; replace HB := zS6 HB GE643 GE644 GE654 GE655 GE665 GE666 hb; have NB643_675 := zn hg BK643; replace BK643 := zB BK643 hb; have NB675_643 := jA NB643_675.out.symm; have NB644_675 := zn hg BK644; replace BK644 := zB BK644 hb; have NB675_644 := jA NB644_675.out.symm; have NB654_675 := zn hg BK654; replace BK654 := zB BK654 hb; have NB675_654 := jA NB654_675.out.symm; have NB655_675 := zn hg BK655; replace BK655 := zB BK655 hb; have NB675_655 := jA NB655_675.out.symm; have NB665_675 := zn hg BK665; replace BK665 := zB BK665 hb; have NB675_665 := jA NB665_675.out.symm; have NB666_675 := zn hg BK666; replace BK666 := zB BK666 hb; have NB675_666 := jA NB666_675.out.symm; clear hb hbox hg; have hnb55 := NB675_643.out; have hnc55 := NB643_675.out; have hnb56 := NB675_644.out; have hnc56 := NB644_675.out; have hnb57 := NB675_654.out; have hnc57 := NB654_675.out; have hnb58 := NB675_655.out; have hnc58 := NB655_675.out; have hnb59 := NB675_665.out; have hnc59 := NB665_675.out; have hnb60 := NB675_666.out; have hnc60 := NB666_675.out; have hcz61 := zc2 BK675; obtain ⟨Ao62, co62, eo62⟩ := Kd.R_slice HO673.out; subst eo62; obtain ⟨Ao63, co63, eo63⟩ := Kd.R_slice HO669.out; subst eo63) | (go_at_call 34; (with_reducible refine (impl_RoomFor.calls k _ _ t667 t670 _ _ t671 t674 t676 t677 _ ?side1 ?side2 ?side3 ?side4 A8.out).mono ?_); (case side1 => refine (jO (e := 65) (base := w.heap.size) (ok := fun k_ => (True ∧ some k_ ≠ (.slice Ao22 t630.length co22 : Value).ownBlock)) (n := t667.length) (c := co63) ?_).2.2; exact (zU HO669 BK675)); (case side2 => exact (jO HO669.out).2.1); (case side3 => refine (jO (e := 2) (base := w.heap.size) (ok := fun k_ => ((((((True ∧ some k_ ≠ (.slice Ao19 t634.length co19 : Value).ownBlock) ∧ some k_ ≠ (.slice Ao21 t638.length co21 : Value).ownBlock) ∧ some k_ ≠ (.slice Ao30 t646.length co30 : Value).ownBlock) ∧ some k_ ≠ (.slice Ao34 t650.length co34 : Value).ownBlock) ∧ some k_ ≠ (.slice Ao46 t657.length co46 : Value).ownBlock) ∧ some k_ ≠ (.slice Ao52 t661.length co52 : Value).ownBlock)) (n := t671.length) (c := co62) ?_).2.2; exact (zU HO673 BK675)); (case side4 => exact (jO HO673.out).2.1); rintro e w64 ⟨rfl, hb⟩; replace HO632 := jA (jE (zU HO632 BK675) hb); replace HO636 := jA (jE (zU HO636 BK675) hb); replace HO640 := jA (jE (zU HO640 BK675) hb); replace HO648 := jA (jE (zU HO648 BK675) hb); replace HO652 := jA (jE (zU HO652 BK675) hb); replace HO659 := jA (jE (zU HO659 BK675) hb); replace HO663 := jA (jE (zU HO663 BK675) hb); replace HO669 := jA (jE (zU HO669 BK675) hb); replace HO673 := jA (jE (zU HO673 BK675) hb); replace BK643 := jA (jT (g := gb643) (o := .cells #[.int .i64 t633, .slice Ao19 t634.length co19] 28 (0, 0)) (zQ1 BK643 NB643_675) hb); replace BK644 := jA (jT (g := gb644) (o := .cells #[.int .i64 t637, .slice Ao21 t638.length co21] 28 (0, 0)) (zQ1 BK644 NB644_675) hb); replace BK654 := jA (jT (g := gb654) (o := .cells #[.int .i64 t645, .slice Ao30 t646.length co30] 28 (0, 0)) (zQ1 BK654 NB654_675) hb); replace BK655 := jA (jT (g := gb655) (o := .cells #[.int .i64 t649, .slice Ao34 t650.length co34] 28 (0, 0)) (zQ1 BK655 NB655_675) hb); replace BK665 := jA (jT (g := gb665) (o := .cells #[.int .i64 t656, .slice Ao46 t657.length co46] 28 (0, 0)) (zQ1 BK665 NB665_675) hb); replace BK666 := jA (jT (g := gb666) (o := .cells #[.int .i64 t660, .slice Ao52 t661.length co52] 28 (0, 0)) (zQ1 BK666 NB666_675) hb); replace BK675 := jA (jT (g := gb675) (o := .cells #[.int .i64 t670, .slice Ao62 t671.length co62] 28 (0, 0)) (zP0 BK675) hb); replace HB := zS7 HB GE643 GE644 GE654 GE655 GE665 GE666 GE675 hb; (try clear hb); (try clear hb2); (try clear hk); (try clear hi); have hcz65 := zc2 BK675) | (go_at_call 33; (with_reducible refine (spec_RoomFor.calls k _ _ t667 t670 _ _ t671 t674 t678 t679 _ ?side1 ?side2 ?side3 ?side4 A9.out).mono ?_); (case side1 => exact zv HO669); (case side2 => exact (jO HO669.out).2.1); (case side3 => exact zv HO673); (case side4 => exact (jO HO673.out).2.1); rintro e w66 ⟨rfl, hb⟩; replace HO632 := jA (jE (zo HO632) hb); replace HO636 := jA (jE (zo HO636) hb); replace HO640 := jA (jE (zo HO640) hb); replace HO648 := jA (jE (zo HO648) hb); replace HO652 := jA (jE (zo HO652) hb); replace HO659 := jA (jE (zo HO659) hb); replace HO663 := jA (jE (zo HO663) hb); replace HO669 := jA (jE (zo HO669) hb); replace HO673 := jA (jE (zo HO673) hb); replace BK643 := zB BK643 hb; replace BK644 := zB BK644 hb; replace BK654 := zB BK654 hb; replace BK655 := zB BK655 hb; replace BK665 := zB BK665 hb; replace BK666 := zB BK666 hb; replace BK675 := zB BK675 hb; replace HB := zS7 HB GE643 GE644 GE654 GE655 GE665 GE666 GE675 hb; (try clear hb); (try clear hb2); (try clear hk); (try clear hi)) | (go_at_call 45; (with_reducible refine (spec_DrawTakePieces.calls k _ _ l0 t680 t683 t684 t687 t688 _ ?side1 ?side2 A10.out).mono ?_); (case side1 => exact zs HR0 HB); (case side2 => exact HC0.out); rintro e w67 ⟨v681, v685, rfl, ho0, ho1, hb⟩; have HO682 := jA (jU (Kd.R_new' (Kd.R_new' ho0 (Kd.R_lt (zo HO632))) (Kd.R_lt (zo HO669))) (jW (zb7 HB GE643 GE644 GE654 GE655 GE665 GE666 GE675))); replace HO632 := jA (Kd.R_elder' (zo HO632) (Kd.R_base ho0) hb); replace HO669 := jA (Kd.R_elder' (zo HO669) (Kd.R_base ho0) hb); have HO686 := jA (jU (Kd.R_new' (Kd.R_new' (Kd.R_new' (Kd.R_new' (Kd.R_new' (Kd.R_new' (Kd.R_new' ho1 (Kd.R_lt (zo HO636))) (Kd.R_lt (zo HO640))) (Kd.R_lt (zo HO648))) (Kd.R_lt (zo HO652))) (Kd.R_lt (zo HO659))) (Kd.R_lt (zo HO663))) (Kd.R_lt (zo HO673))) (jW (zb7 HB GE643 GE644 GE654 GE655 GE665 GE666 GE675))); replace HO636 := jA (Kd.R_elder' (zo HO636) (Kd.R_base ho1) hb); replace HO640 := jA (Kd.R_elder' (zo HO640) (Kd.R_base ho1) hb); replace HO648 := jA (Kd.R_elder' (zo HO648) (Kd.R_base ho1) hb); replace HO652 := jA (Kd.R_elder' (zo HO652) (Kd.R_base ho1) hb); replace HO659 := jA (Kd.R_elder' (zo HO659) (Kd.R_base ho1) hb); replace HO663 := jA (Kd.R_elder' (zo HO663) (Kd.R_base ho1) hb); replace HO673 := jA (Kd.R_elder' (zo HO673) (Kd.R_base ho1) hb); replace BK643 := zB BK643 hb; replace BK644 := zB BK644 hb; replace BK654 := zB BK654 hb; replace BK655 := zB BK655 hb; replace BK665 := zB BK665 hb; replace BK666 := zB BK666 hb; replace BK675 := zB BK675 hb; replace HB := zS7 HB GE643 GE644 GE654 GE655 GE665 GE666 GE675 hb; (try clear hb); (try clear hb2); (try clear hk); (try clear hi); (try clear ho0); (try clear ho1)) | ((with_reducible refine jJ (N := 22) rfl ?_); (try (refine gate_guard (by rfl) ?_; dsimp only)); refine zE 22 #[.int .i64 0, .slice none 0 0] 28 ?_; intro gb689 hg w68 hbox hb; replace HO632 := jA (jE (zo HO632) hb); replace HO636 := jA (jE (zo HO636) hb); replace HO640 := jA (jE (zo HO640) hb); replace HO648 := jA (jE (zo HO648) hb); replace HO652 := jA (jE (zo HO652) hb); replace HO659 := jA (jE (zo HO659) hb); replace HO663 := jA (jE (zo HO663) hb); replace HO669 := jA (jE (zo HO669) hb); replace HO673 := jA (jE (zo HO673) hb); replace HO682 := jA (jE (zo HO682) hb); replace HO686 := jA (jE (zo HO686) hb); have BK689 := jA (hbox); have GW689 := zg7 hg HB GE643 GE644 GE654 GE655 GE665 GE666 GE675; have GE689 := zg7 hg HB GE643 GE644 GE654 GE655 GE665 GE666 GE675; replace HB := zS7 HB GE643 GE644 GE654 GE655 GE665 GE666 GE675 hb; have NB643_689 := zn hg BK643; replace BK643 := zB BK643 hb; have NB689_643 := jA NB643_689.out.symm; have NB644_689 := zn hg BK644; replace BK644 := zB BK644 hb; have NB689_644 := jA NB644_689.out.symm; have NB654_689 := zn hg BK654; replace BK654 := zB BK654 hb; have NB689_654 := jA NB654_689.out.symm; have NB655_689 := zn hg BK655; replace BK655 := zB BK655 hb; have NB689_655 := jA NB655_689.out.symm; have NB665_689 := zn hg BK665; replace BK665 := zB BK665 hb; have NB689_665 := jA NB665_689.out.symm; have NB666_689 := zn hg BK666; replace BK666 := zB BK666 hb; have NB689_666 := jA NB666_689.out.symm; have NB675_689 := zn hg BK675; replace BK675 := zB BK675 hb; have NB689_675 := jA NB675_689.out.symm; clear hb hbox hg; have hnb69 := NB689_643.out; have hnc69 := NB643_689.out; have hnb70 := NB689_644.out; have hnc70 := NB644_689.out; have hnb71 := NB689_654.out; have hnc71 := NB654_689.out; have hnb72 := NB689_655.out; have hnc72 := NB655_689.out; have hnb73 := NB689_665.out; have hnc73 := NB665_689.out; have hnb74 := NB689_666.out; have hnc74 := NB666_689.out; have hnb75 := NB689_675.out; have hnc75 := NB675_689.out; have hcz76 := zc2 BK689; obtain ⟨Ao77, co77, eo77⟩ := Kd.R_slice HO686.out; subst eo77; obtain ⟨Ao78, co78, eo78⟩ := Kd.R_slice HO682.out; subst eo78) | (go_at_call 36; (with_reducible refine (impl_TakePieces.calls k _ _ t680 t683 _ _ t684 t687 t688 t690 t691 t694 _ ?side1 ?side2 ?side3 ?side4 A11.out).mono ?_); (case side1 => refine (jO (e := 65) (base := w.heap.size) (ok := fun k_ => ((True ∧ some k_ ≠ (.slice Ao22 t630.length co22 : Value).ownBlock) ∧ some k_ ≠ (.slice Ao63 t667.length co63 : Value).ownBlock)) (n := t680.length) (c := co78) ?_).2.2; exact (zU HO682 BK689)); (case side2 => exact (jO HO682.out).2.1); (case side3 => refine (jO (e := 2) (base := w.heap.size) (ok := fun k_ => (((((((True ∧ some k_ ≠ (.slice Ao19 t634.length co19 : Value).ownBlock) ∧ some k_ ≠ (.slice Ao21 t638.length co21 : Value).ownBlock) ∧ some k_ ≠ (.slice Ao30 t646.length co30 : Value).ownBlock) ∧ some k_ ≠ (.slice Ao34 t650.length co34 : Value).ownBlock) ∧ some k_ ≠ (.slice Ao46 t657.length co46 : Value).ownBlock) ∧ some k_ ≠ (.slice Ao52 t661.length co52 : Value).ownBlock) ∧ some k_ ≠ (.slice Ao62 t671.length co62 : Value).ownBlock)) (n := t684.length) (c := co77) ?_).2.2; exact (zU HO686 BK689)); (case side4 => exact (jO HO686.out).2.1); rintro e w79 ⟨v692, rfl, ho0, hb⟩; replace HO632 := jA (jE (zU HO632 BK689) hb); replace HO669 := jA (jE (zU HO669 BK689) hb); replace HO682 := jA (jE (zU HO682 BK689) hb); have HO693 := jA (jU (Kd.R_new' (Kd.R_new' (Kd.R_new' (Kd.R_new' (Kd.R_new' (Kd.R_new' (Kd.R_new' (Kd.R_new' ho0 (Kd.R_lt (zU HO636 BK689))) (Kd.R_lt (zU HO640 BK689))) (Kd.R_lt (zU HO648 BK689))) (Kd.R_lt (zU HO652 BK689))) (Kd.R_lt (zU HO659 BK689))) (Kd.R_lt (zU HO663 BK689))) (Kd.R_lt (zU HO673 BK689))) (Kd.R_lt (zU HO686 BK689))) (jW (zb8 HB GE643 GE644 GE654 GE655 GE665 GE666 GE675 GE689))); replace HO636 := jA (Kd.R_elder' (zU HO636 BK689) (Kd.R_base ho0) hb); replace HO640 := jA (Kd.R_elder' (zU HO640 BK689) (Kd.R_base ho0) hb); replace HO648 := jA (Kd.R_elder' (zU HO648 BK689) (Kd.R_base ho0) hb); replace HO652 := jA (Kd.R_elder' (zU HO652 BK689) (Kd.R_base ho0) hb); replace HO659 := jA (Kd.R_elder' (zU HO659 BK689) (Kd.R_base ho0) hb); replace HO663 := jA (Kd.R_elder' (zU HO663 BK689) (Kd.R_base ho0) hb); replace HO673 := jA (Kd.R_elder' (zU HO673 BK689) (Kd.R_base ho0) hb); replace HO686 := jA (Kd.R_elder' (zU HO686 BK689) (Kd.R_base ho0) hb); replace BK643 := jA (jT (g := gb643) (o := .cells #[.int .i64 t633, .slice Ao19 t634.length co19] 28 (0, 0)) (zQ1 BK643 NB643_689) hb); replace BK644 := jA (jT (g := gb644) (o := .cells #[.int .i64 t637, .slice Ao21 t638.length co21] 28 (0, 0)) (zQ1 BK644 NB644_689) hb); replace BK654 := jA (jT (g := gb654) (o := .cells #[.int .i64 t645, .slice Ao30 t646.length co30] 28 (0, 0)) (zQ1 BK654 NB654_689) hb); replace BK655 := jA (jT (g := gb655) (o := .cells #[.int .i64 t649, .slice Ao34 t650.length co34] 28 (0, 0)) (zQ1 BK655 NB655_689) hb); replace BK665 := jA (jT (g := gb665) (o := .cells #[.int .i64 t656, .slice Ao46 t657.length co46] 28 (0, 0)) (zQ1 BK665 NB665_689) hb); replace BK666 := jA (jT (g := gb666) (o := .cells #[.int .i64 t660, .slice Ao52 t661.length co52] 28 (0, 0)) (zQ1 BK666 NB666_689) hb); replace BK675 := jA (jT (g := gb675) (o := .cells #[.int .i64 t670, .slice Ao62 t671.length co62] 28 (0, 0)) (zQ1 BK675 NB675_689) hb); replace BK689 := jA (jT (g := gb689) (o := .cells #[.int .i64 t683, .slice Ao77 t684.length co77] 28 (0, 0)) (zP0 BK689) hb); replace HB := zS8 HB GE643 GE644 GE654 GE655 GE665 GE666 GE675 GE689 hb; (try clear hb); (try clear hb2); (try clear hk); (try clear hi); (try clear ho0)) | ((with_reducible refine jJ (N := 25) rfl ?_); (try (refine gate_guard (by rfl) ?_; dsimp only)); refine zE 25 #[.int .i64 0, .slice none 0 0] 28 ?_; intro gb695 hg w80 hbox hb; replace HO632 := jA (jE (zo HO632) hb); replace HO636 := jA (jE (zo HO636) hb); replace HO640 := jA (jE (zo HO640) hb); replace HO648 := jA (jE (zo HO648) hb); replace HO652 := jA (jE (zo HO652) hb); replace HO659 := jA (jE (zo HO659) hb); replace HO663 := jA (jE (zo HO663) hb); replace HO669 := jA (jE (zo HO669) hb); replace HO673 := jA (jE (zo HO673) hb); replace HO682 := jA (jE (zo HO682) hb); replace HO686 := jA (jE (zo HO686) hb); replace HO693 := jA (jE (zo HO693) hb); have BK695 := jA (hbox); have GW695 := zg8 hg HB GE643 GE644 GE654 GE655 GE665 GE666 GE675 GE689; have GE695 := zg8 hg HB GE643 GE644 GE654 GE655 GE665 GE666 GE675 GE689; replace HB := zS8 HB GE643 GE644 GE654 GE655 GE665 GE666 GE675 GE689 hb; have NB643_695 := zn hg BK643; replace BK643 := zB BK643 hb; have NB695_643 := jA NB643_695.out.symm; have NB644_695 := zn hg BK644; replace BK644 := zB BK644 hb; have NB695_644 := jA NB644_695.out.symm; have NB654_695 := zn hg BK654; replace BK654 := zB BK654 hb; have NB695_654 := jA NB654_695.out.symm; have NB655_695 := zn hg BK655; replace BK655 := zB BK655 hb; have NB695_655 := jA NB655_695.out.symm; have NB665_695 := zn hg BK665; replace BK665 := zB BK665 hb; have NB695_665 := jA NB665_695.out.symm; have NB666_695 := zn hg BK666; replace BK666 := zB BK666 hb; have NB695_666 := jA NB666_695.out.symm; have NB675_695 := zn hg BK675; replace BK675 := zB BK675 hb; have NB695_675 := jA NB675_695.out.symm; have NB689_695 := zn hg BK689; replace BK689 := zB BK689 hb; have NB695_689 := jA NB689_695.out.symm; clear hb hbox hg; have hnb81 := NB695_643.out; have hnc81 := NB643_695.out; have hnb82 := NB695_644.out; have hnc82 := NB644_695.out; have hnb83 := NB695_654.out; have hnc83 := NB654_695.out; have hnb84 := NB695_655.out; have hnc84 := NB655_695.out; have hnb85 := NB695_665.out; have hnc85 := NB665_695.out; have hnb86 := NB695_666.out; have hnc86 := NB666_695.out; have hnb87 := NB695_675.out; have hnc87 := NB675_695.out; have hnb88 := NB695_689.out; have hnc88 := NB689_695.out; have hcz89 := zc2 BK695; obtain ⟨Ao90, co90, eo90⟩ := Kd.R_slice HO693.out; subst eo90; have hcz91 := zc2 BK689) | (go_at_call 35; (with_reducible refine (spec_TakePieces.calls k _ _ t680 t683 _ _ t684 t687 t688 t696 t697 t700 _ ?side1 ?side2 ?side3 ?side4 A12.out).mono ?_); (case side1 => refine (jO (e := 65) (base := w.heap.size) (ok := fun k_ => ((True ∧ some k_ ≠ (.slice Ao22 t630.length co22 : Value).ownBlock) ∧ some k_ ≠ (.slice Ao63 t667.length co63 : Value).ownBlock)) (n := t680.length) (c := co78) ?_).2.2; exact (zU HO682 BK695)); (case side2 => exact (jO HO682.out).2.1); (case side3 => refine (jO (e := 2) (base := w.heap.size) (ok := fun k_ => ((((((((True ∧ some k_ ≠ (.slice Ao19 t634.length co19 : Value).ownBlock) ∧ some k_ ≠ (.slice Ao21 t638.length co21 : Value).ownBlock) ∧ some k_ ≠ (.slice Ao30 t646.length co30 : Value).ownBlock) ∧ some k_ ≠ (.slice Ao34 t650.length co34 : Value).ownBlock) ∧ some k_ ≠ (.slice Ao46 t657.length co46 : Value).ownBlock) ∧ some k_ ≠ (.slice Ao52 t661.length co52 : Value).ownBlock) ∧ some k_ ≠ (.slice Ao62 t671.length co62 : Value).ownBlock) ∧ some k_ ≠ (.slice Ao90 t691.length co90 : Value).ownBlock)) (n := t684.length) (c := co77) ?_).2.2; exact (zU HO686 BK695)); (case side4 => exact (jO HO686.out).2.1); rintro e w92 ⟨v698, rfl, ho0, hb⟩; replace HO632 := jA (jE (zU HO632 BK695) hb); replace HO669 := jA (jE (zU HO669 BK695) hb); replace HO682 := jA (jE (zU HO682 BK695) hb); have HO699 := jA (jU (Kd.R_new' (Kd.R_new' (Kd.R_new' (Kd.R_new' (Kd.R_new' (Kd.R_new' (Kd.R_new' (Kd.R_new' (Kd.R_new' ho0 (Kd.R_lt (zU HO636 BK695))) (Kd.R_lt (zU HO640 BK695))) (Kd.R_lt (zU HO648 BK695))) (Kd.R_lt (zU HO652 BK695))) (Kd.R_lt (zU HO659 BK695))) (Kd.R_lt (zU HO663 BK695))) (Kd.R_lt (zU HO673 BK695))) (Kd.R_lt (zU HO686 BK695))) (Kd.R_lt (zU HO693 BK695))) (jW (zb9 HB GE643 GE644 GE654 GE655 GE665 GE666 GE675 GE689 GE695))); replace HO636 := jA (Kd.R_elder' (zU HO636 BK695) (Kd.R_base ho0) hb); replace HO640 := jA (Kd.R_elder' (zU HO640 BK695) (Kd.R_base ho0) hb); replace HO648 := jA (Kd.R_elder' (zU HO648 BK695) (Kd.R_base ho0) hb); replace HO652 := jA (Kd.R_elder' (zU HO652 BK695) (Kd.R_base ho0) hb); replace HO659 := jA (Kd.R_elder' (zU HO659 BK695) (Kd.R_base ho0) hb); replace HO663 := jA (Kd.R_elder' (zU HO663 BK695) (Kd.R_base ho0) hb); replace HO673 := jA (Kd.R_elder' (zU HO673 BK695) (Kd.R_base ho0) hb); replace HO686 := jA (Kd.R_elder' (zU HO686 BK695) (Kd.R_base ho0) hb); replace HO693 := jA (Kd.R_elder' (zU HO693 BK695) (Kd.R_base ho0) hb); replace BK643 := jA (jT (g := gb643) (o := .cells #[.int .i64 t633, .slice Ao19 t634.length co19] 28 (0, 0)) (zQ1 BK643 NB643_695) hb); replace BK644 := jA (jT (g := gb644) (o := .cells #[.int .i64 t637, .slice Ao21 t638.length co21] 28 (0, 0)) (zQ1 BK644 NB644_695) hb); replace BK654 := jA (jT (g := gb654) (o := .cells #[.int .i64 t645, .slice Ao30 t646.length co30] 28 (0, 0)) (zQ1 BK654 NB654_695) hb); replace BK655 := jA (jT (g := gb655) (o := .cells #[.int .i64 t649, .slice Ao34 t650.length co34] 28 (0, 0)) (zQ1 BK655 NB655_695) hb); replace BK665 := jA (jT (g := gb665) (o := .cells #[.int .i64 t656, .slice Ao46 t657.length co46] 28 (0, 0)) (zQ1 BK665 NB665_695) hb); replace BK666 := jA (jT (g := gb666) (o := .cells #[.int .i64 t660, .slice Ao52 t661.length co52] 28 (0, 0)) (zQ1 BK666 NB666_695) hb); replace BK675 := jA (jT (g := gb675) (o := .cells #[.int .i64 t670, .slice Ao62 t671.length co62] 28 (0, 0)) (zQ1 BK675 NB675_695) hb); replace BK689 := jA (jT (g := gb689) (o := .cells #[.int .i64 t683, .slice Ao77 t684.length co77] 28 (0, 0)) (zQ1 BK689 NB689_695) hb); replace BK695 := jA (jT (g := gb695) (o := .cells #[.int .i64 t690, .slice Ao90 t691.length co90] 28 (0, 0)) (zP0 BK695) hb); replace HB := zS9 HB GE643 GE644 GE654 GE655 GE665 GE666 GE675 GE689 GE695 hb; (try clear hb); (try clear hb2); (try clear hk); (try clear hi); (try clear ho0)) | ((with_reducible refine jJ (N := 27) rfl ?_); (try (refine gate_guard (by rfl) ?_; dsimp only)); refine zE 27 #[.int .i64 0, .slice none 0 0] 28 ?_; intro gb701 hg w93 hbox hb; replace HO632 := jA (jE (zo HO632) hb); replace HO636 := jA (jE (zo HO636) hb); replace HO640 := jA (jE (zo HO640) hb); replace HO648 := jA (jE (zo HO648) hb); replace HO652 := jA (jE (zo HO652) hb); replace HO659 := jA (jE (zo HO659) hb); replace HO663 := jA (jE (zo HO663) hb); replace HO669 := jA (jE (zo HO669) hb); replace HO673 := jA (jE (zo HO673) hb); replace HO682 := jA (jE (zo HO682) hb); replace HO686 := jA (jE (zo HO686) hb); replace HO693 := jA (jE (zo HO693) hb); replace HO699 := jA (jE (zo HO699) hb); have BK701 := jA (hbox); have GW701 := zg9 hg HB GE643 GE644 GE654 GE655 GE665 GE666 GE675 GE689 GE695; have GE701 := zg9 hg HB GE643 GE644 GE654 GE655 GE665 GE666 GE675 GE689 GE695; replace HB := zS9 HB GE643 GE644 GE654 GE655 GE665 GE666 GE675 GE689 GE695 hb; have NB643_701 := zn hg BK643; replace BK643 := zB BK643 hb; have NB701_643 := jA NB643_701.out.symm; have NB644_701 := zn hg BK644; replace BK644 := zB BK644 hb; have NB701_644 := jA NB644_701.out.symm; have NB654_701 := zn hg BK654; replace BK654 := zB BK654 hb; have NB701_654 := jA NB654_701.out.symm; have NB655_701 := zn hg BK655; replace BK655 := zB BK655 hb; have NB701_655 := jA NB655_701.out.symm; have NB665_701 := zn hg BK665; replace BK665 := zB BK665 hb; have NB701_665 := jA NB665_701.out.symm; have NB666_701 := zn hg BK666; replace BK666 := zB BK666 hb; have NB701_666 := jA NB666_701.out.symm; have NB675_701 := zn hg BK675; replace BK675 := zB BK675 hb; have NB701_675 := jA NB675_701.out.symm; have NB689_701 := zn hg BK689; replace BK689 := zB BK689 hb; have NB701_689 := jA NB689_701.out.symm; have NB695_701 := zn hg BK695; replace BK695 := zB BK695 hb; have NB701_695 := jA NB695_701.out.symm; clear hb hbox hg; have hnb94 := NB701_643.out; have hnc94 := NB643_701.out; have hnb95 := NB701_644.out; have hnc95 := NB644_701.out; have hnb96 := NB701_654.out; have hnc96 := NB654_701.out; have hnb97 := NB701_655.out; have hnc97 := NB655_701.out; have hnb98 := NB701_665.out; have hnc98 := NB665_701.out; have hnb99 := NB701_666.out; have hnc99 := NB666_701.out; have hnb100 := NB701_675.out; have hnc100 := NB675_701.out; have hnb101 := NB701_689.out; have hnc101 := NB689_701.out; have hnb102 := NB701_695.out; have hnc102 := NB695_701.out; have hcz103 := zc2 BK701; obtain ⟨Ao104, co104, eo104⟩ := Kd.R_slice HO699.out; subst eo104))
  (try simp only [Act.put, jC, jH, jI])
  go_cut [146] (fun v146 wc => ∃ (kq : Nat) (x146_12 : Bool), v146 = .bool x146_12 ∧ Aside0 (laws_FnMoved.j0 kq t630 t653 t667 t674 t676 t677 t680 t694 x146_12 t633 t634 t637 t638 t645 t646 t649 t650 t670 t671 t683 t684 t690 t691 = some r) ∧ Aside0 (kq ≤ k) ∧ Aside0 (Kd.R k65 65 wc w.heap.size (fun k_ => some k_ ≠ ((.slice Ao63 t667.length co63) : Value).ownBlock ∧ some k_ ≠ ((.slice Ao78 t680.length co78) : Value).ownBlock) (.slice Ao22 t630.length co22) t630) ∧ Aside0 (Kd.R k65 65 wc w.heap.size (fun k_ => some k_ ≠ ((.slice Ao22 t630.length co22) : Value).ownBlock ∧ some k_ ≠ ((.slice Ao78 t680.length co78) : Value).ownBlock) (.slice Ao63 t667.length co63) t667) ∧ Aside0 (Kd.R k65 65 wc w.heap.size (fun k_ => some k_ ≠ ((.slice Ao22 t630.length co22) : Value).ownBlock ∧ some k_ ≠ ((.slice Ao63 t667.length co63) : Value).ownBlock) (.slice Ao78 t680.length co78) t680) ∧ Aside0 (Kd.R (Kd.int .i64) 2 wc w.heap.size (fun k_ => some k_ ≠ ((.slice Ao21 t638.length co21) : Value).ownBlock ∧ some k_ ≠ ((.slice Ao30 t646.length co30) : Value).ownBlock ∧ some k_ ≠ ((.slice Ao34 t650.length co34) : Value).ownBlock ∧ some k_ ≠ ((.slice Ao46 t657.length co46) : Value).ownBlock ∧ some k_ ≠ ((.slice Ao52 t661.length co52) : Value).ownBlock ∧ some k_ ≠ ((.slice Ao62 t671.length co62) : Value).ownBlock ∧ some k_ ≠ ((.slice Ao77 t684.length co77) : Value).ownBlock ∧ some k_ ≠ ((.slice Ao90 t691.length co90) : Value).ownBlock ∧ some k_ ≠ ((.slice Ao104 t697.length co104) : Value).ownBlock) (.slice Ao19 t634.length co19) t634) ∧ Aside0 (Kd.R (Kd.int .i64) 2 wc w.heap.size (fun k_ => some k_ ≠ ((.slice Ao19 t634.length co19) : Value).ownBlock ∧ some k_ ≠ ((.slice Ao30 t646.length co30) : Value).ownBlock ∧ some k_ ≠ ((.slice Ao34 t650.length co34) : Value).ownBlock ∧ some k_ ≠ ((.slice Ao46 t657.length co46) : Value).ownBlock ∧ some k_ ≠ ((.slice Ao52 t661.length co52) : Value).ownBlock ∧ some k_ ≠ ((.slice Ao62 t671.length co62) : Value).ownBlock ∧ some k_ ≠ ((.slice Ao77 t684.length co77) : Value).ownBlock ∧ some k_ ≠ ((.slice Ao90 t691.length co90) : Value).ownBlock ∧ some k_ ≠ ((.slice Ao104 t697.length co104) : Value).ownBlock) (.slice Ao21 t638.length co21) t638) ∧ Aside0 (Kd.R (Kd.int .i64) 2 wc w.heap.size (fun k_ => some k_ ≠ ((.slice Ao19 t634.length co19) : Value).ownBlock ∧ some k_ ≠ ((.slice Ao21 t638.length co21) : Value).ownBlock ∧ some k_ ≠ ((.slice Ao34 t650.length co34) : Value).ownBlock ∧ some k_ ≠ ((.slice Ao46 t657.length co46) : Value).ownBlock ∧ some k_ ≠ ((.slice Ao52 t661.length co52) : Value).ownBlock ∧ some k_ ≠ ((.slice Ao62 t671.length co62) : Value).ownBlock ∧ some k_ ≠ ((.slice Ao77 t684.length co77) : Value).ownBlock ∧ some k_ ≠ ((.slice Ao90 t691.length co90) : Value).ownBlock ∧ some k_ ≠ ((.slice Ao104 t697.length co104) : Value).ownBlock) (.slice Ao30 t646.length co30) t646) ∧ Aside0 (Kd.R (Kd.int .i64) 2 wc w.heap.size (fun k_ => some k_ ≠ ((.slice Ao19 t634.length co19) : Value).ownBlock ∧ some k_ ≠ ((.slice Ao21 t638.length co21) : Value).ownBlock ∧ some k_ ≠ ((.slice Ao30 t646.length co30) : Value).ownBlock ∧ some k_ ≠ ((.slice Ao46 t657.length co46) : Value).ownBlock ∧ some k_ ≠ ((.slice Ao52 t661.length co52) : Value).ownBlock ∧ some k_ ≠ ((.slice Ao62 t671.length co62) : Value).ownBlock ∧ some k_ ≠ ((.slice Ao77 t684.length co77) : Value).ownBlock ∧ some k_ ≠ ((.slice Ao90 t691.length co90) : Value).ownBlock ∧ some k_ ≠ ((.slice Ao104 t697.length co104) : Value).ownBlock) (.slice Ao34 t650.length co34) t650) ∧ Aside0 (Kd.R (Kd.int .i64) 2 wc w.heap.size (fun k_ => some k_ ≠ ((.slice Ao19 t634.length co19) : Value).ownBlock ∧ some k_ ≠ ((.slice Ao21 t638.length co21) : Value).ownBlock ∧ some k_ ≠ ((.slice Ao30 t646.length co30) : Value).ownBlock ∧ some k_ ≠ ((.slice Ao34 t650.length co34) : Value).ownBlock ∧ some k_ ≠ ((.slice Ao52 t661.length co52) : Value).ownBlock ∧ some k_ ≠ ((.slice Ao62 t671.length co62) : Value).ownBlock ∧ some k_ ≠ ((.slice Ao77 t684.length co77) : Value).ownBlock ∧ some k_ ≠ ((.slice Ao90 t691.length co90) : Value).ownBlock ∧ some k_ ≠ ((.slice Ao104 t697.length co104) : Value).ownBlock) (.slice Ao46 t657.length co46) t657) ∧ Aside0 (Kd.R (Kd.int .i64) 2 wc w.heap.size (fun k_ => some k_ ≠ ((.slice Ao19 t634.length co19) : Value).ownBlock ∧ some k_ ≠ ((.slice Ao21 t638.length co21) : Value).ownBlock ∧ some k_ ≠ ((.slice Ao30 t646.length co30) : Value).ownBlock ∧ some k_ ≠ ((.slice Ao34 t650.length co34) : Value).ownBlock ∧ some k_ ≠ ((.slice Ao46 t657.length co46) : Value).ownBlock ∧ some k_ ≠ ((.slice Ao62 t671.length co62) : Value).ownBlock ∧ some k_ ≠ ((.slice Ao77 t684.length co77) : Value).ownBlock ∧ some k_ ≠ ((.slice Ao90 t691.length co90) : Value).ownBlock ∧ some k_ ≠ ((.slice Ao104 t697.length co104) : Value).ownBlock) (.slice Ao52 t661.length co52) t661) ∧ Aside0 (Kd.R (Kd.int .i64) 2 wc w.heap.size (fun k_ => some k_ ≠ ((.slice Ao19 t634.length co19) : Value).ownBlock ∧ some k_ ≠ ((.slice Ao21 t638.length co21) : Value).ownBlock ∧ some k_ ≠ ((.slice Ao30 t646.length co30) : Value).ownBlock ∧ some k_ ≠ ((.slice Ao34 t650.length co34) : Value).ownBlock ∧ some k_ ≠ ((.slice Ao46 t657.length co46) : Value).ownBlock ∧ some k_ ≠ ((.slice Ao52 t661.length co52) : Value).ownBlock ∧ some k_ ≠ ((.slice Ao77 t684.length co77) : Value).ownBlock ∧ some k_ ≠ ((.slice Ao90 t691.length co90) : Value).ownBlock ∧ some k_ ≠ ((.slice Ao104 t697.length co104) : Value).ownBlock) (.slice Ao62 t671.length co62) t671) ∧ Aside0 (Kd.R (Kd.int .i64) 2 wc w.heap.size (fun k_ => some k_ ≠ ((.slice Ao19 t634.length co19) : Value).ownBlock ∧ some k_ ≠ ((.slice Ao21 t638.length co21) : Value).ownBlock ∧ some k_ ≠ ((.slice Ao30 t646.length co30) : Value).ownBlock ∧ some k_ ≠ ((.slice Ao34 t650.length co34) : Value).ownBlock ∧ some k_ ≠ ((.slice Ao46 t657.length co46) : Value).ownBlock ∧ some k_ ≠ ((.slice Ao52 t661.length co52) : Value).ownBlock ∧ some k_ ≠ ((.slice Ao62 t671.length co62) : Value).ownBlock ∧ some k_ ≠ ((.slice Ao90 t691.length co90) : Value).ownBlock ∧ some k_ ≠ ((.slice Ao104 t697.length co104) : Value).ownBlock) (.slice Ao77 t684.length co77) t684) ∧ Aside0 (Kd.R (Kd.int .i64) 2 wc w.heap.size (fun k_ => some k_ ≠ ((.slice Ao19 t634.length co19) : Value).ownBlock ∧ some k_ ≠ ((.slice Ao21 t638.length co21) : Value).ownBlock ∧ some k_ ≠ ((.slice Ao30 t646.length co30) : Value).ownBlock ∧ some k_ ≠ ((.slice Ao34 t650.length co34) : Value).ownBlock ∧ some k_ ≠ ((.slice Ao46 t657.length co46) : Value).ownBlock ∧ some k_ ≠ ((.slice Ao52 t661.length co52) : Value).ownBlock ∧ some k_ ≠ ((.slice Ao62 t671.length co62) : Value).ownBlock ∧ some k_ ≠ ((.slice Ao77 t684.length co77) : Value).ownBlock ∧ some k_ ≠ ((.slice Ao104 t697.length co104) : Value).ownBlock) (.slice Ao90 t691.length co90) t691) ∧ Aside0 (Kd.R (Kd.int .i64) 2 wc w.heap.size (fun k_ => some k_ ≠ ((.slice Ao19 t634.length co19) : Value).ownBlock ∧ some k_ ≠ ((.slice Ao21 t638.length co21) : Value).ownBlock ∧ some k_ ≠ ((.slice Ao30 t646.length co30) : Value).ownBlock ∧ some k_ ≠ ((.slice Ao34 t650.length co34) : Value).ownBlock ∧ some k_ ≠ ((.slice Ao46 t657.length co46) : Value).ownBlock ∧ some k_ ≠ ((.slice Ao52 t661.length co52) : Value).ownBlock ∧ some k_ ≠ ((.slice Ao62 t671.length co62) : Value).ownBlock ∧ some k_ ≠ ((.slice Ao77 t684.length co77) : Value).ownBlock ∧ some k_ ≠ ((.slice Ao90 t691.length co90) : Value).ownBlock) (.slice Ao104 t697.length co104) t697) ∧ Aside0 (wc.heap[gb643]? = some (.cells #[.int .i64 t633, (.slice Ao19 t634.length co19)] 28 (0, 0))) ∧ Aside0 (wc.heap[gb644]? = some (.cells #[.int .i64 t637, (.slice Ao21 t638.length co21)] 28 (0, 0))) ∧ Aside0 (wc.heap[gb654]? = some (.cells #[.int .i64 t645, (.slice Ao30 t646.length co30)] 28 (0, 0))) ∧ Aside0 (wc.heap[gb655]? = some (.cells #[.int .i64 t649, (.slice Ao34 t650.length co34)] 28 (0, 0))) ∧ Aside0 (wc.heap[gb665]? = some (.cells #[.int .i64 t656, (.slice Ao46 t657.length co46)] 28 (0, 0))) ∧ Aside0 (wc.heap[gb666]? = some (.cells #[.int .i64 t660, (.slice Ao52 t661.length co52)] 28 (0, 0))) ∧ Aside0 (wc.heap[gb675]? = some (.cells #[.int .i64 t670, (.slice Ao62 t671.length co62)] 28 (0, 0))) ∧ Aside0 (wc.heap[gb689]? = some (.cells #[.int .i64 t683, (.slice Ao77 t684.length co77)] 28 (0, 0))) ∧ Aside0 (wc.heap[gb695]? = some (.cells #[.int .i64 t690, (.slice Ao90 t691.length co90)] 28 (0, 0))) ∧ Aside0 (wc.heap[gb701]? = some (.cells #[.int .i64 t696, (.slice Ao104 t697.length co104)] 28 (0, 0))) ∧ Aside0 (Below w.heap.size w wc))
  case first =>
   have H := HC13.out
   clear HC13
   by_cases c105 : t653 = t664
   ·as_aux_lemma =>
    rw [if_pos c105] at H
    have c105b0 : (t653 == t664) = true := beq_iff_eq.mpr c105
    have c105b1 : (t653 != t664) = false := bne_eq_false_iff_eq.mpr c105
    clear c105
    (first | rw [c105b0] | (simp only [i64_w, i32_w]; rw [c105b0]) | skip)
    replace H := jB.mp H
    obtain ⟨t702, A1060, H⟩ := H
    try dsimp only at H
    have A106 := jA A1060
    clear A1060
    by_cases c107 : t702 = true
    ·as_aux_lemma =>
     subst c107
     rw [if_pos rfl] at H
     replace H := jB.mp H
     obtain ⟨t703, A1080, H⟩ := H
     try dsimp only at H
     have A108 := jA A1080
     clear A1080
     by_cases c109 : t703 = true
     ·as_aux_lemma =>
      subst c109
      rw [if_pos rfl] at H
      by_cases c110 : t677 = t679
      ·as_aux_lemma =>
       rw [if_pos c110] at H
       have c110b0 : (t677 == t679) = true := beq_iff_eq.mpr c110
       have c110b1 : (t677 != t679) = false := bne_eq_false_iff_eq.mpr c110
       clear c110
       by_cases c111 : t676 = t678
       ·as_aux_lemma =>
        rw [if_pos c111] at H
        have c111b0 : (t676 == t678) = true := beq_iff_eq.mpr c111
        have c111b1 : (t676 != t678) = false := bne_eq_false_iff_eq.mpr c111
        clear c111
        by_cases c112 : t694 = t700
        ·as_aux_lemma =>
         rw [if_pos c112] at H
         have c112b0 : (t694 == t700) = true := beq_iff_eq.mpr c112
         have c112b1 : (t694 != t700) = false := bne_eq_false_iff_eq.mpr c112
         clear c112
         replace H := jB.mp H
         obtain ⟨t704, A1130, H⟩ := H
         try dsimp only at H
         have A113 := jA A1130
         clear A1130
         have H' := jA H
         clear H
         have hnb114 := NB654_643.out
         have hnc114 := NB643_654.out
         have hnb115 := NB654_644.out
         have hnc115 := NB644_654.out
         have hnb116 := NB654_655.out
         have hnc116 := NB655_654.out
         have hnb117 := NB654_665.out
         have hnc117 := NB665_654.out
         have hnb118 := NB654_666.out
         have hnc118 := NB666_654.out
         have hnb119 := NB654_675.out
         have hnc119 := NB675_654.out
         have hnb120 := NB654_689.out
         have hnc120 := NB689_654.out
         have hnb121 := NB654_695.out
         have hnc121 := NB695_654.out
         have hnb122 := NB654_701.out
         have hnc122 := NB701_654.out
         have hcz123 := zc2 BK654
         have hnb124 := NB665_643.out
         have hnc124 := NB643_665.out
         have hnb125 := NB665_644.out
         have hnc125 := NB644_665.out
         have hnb126 := NB665_655.out
         have hnc126 := NB655_665.out
         have hnb127 := NB665_666.out
         have hnc127 := NB666_665.out
         have hnb128 := NB665_675.out
         have hnc128 := NB675_665.out
         have hnb129 := NB665_689.out
         have hnc129 := NB689_665.out
         have hnb130 := NB665_695.out
         have hnc130 := NB695_665.out
         have hnb131 := NB665_701.out
         have hnc131 := NB701_665.out
         have hcz132 := zc2 BK665
         go_wp2_with (first | (go_at_call 42; (with_reducible refine (laws_likeMagazine.calls k t645 _ _ t646 t656 _ _ t657 true _ ?side1 ?side2 ?side3 ?side4 A106.out).mono ?_); (case side1 => refine (jO (e := 2) (base := w.heap.size) (ok := fun k_ => ((((((((some k_ ≠ (.slice Ao34 t650.length co34 : Value).ownBlock ∧ some k_ ≠ (.slice Ao19 t634.length co19 : Value).ownBlock) ∧ some k_ ≠ (.slice Ao21 t638.length co21 : Value).ownBlock) ∧ some k_ ≠ (.slice Ao46 t657.length co46 : Value).ownBlock) ∧ some k_ ≠ (.slice Ao52 t661.length co52 : Value).ownBlock) ∧ some k_ ≠ (.slice Ao62 t671.length co62 : Value).ownBlock) ∧ some k_ ≠ (.slice Ao77 t684.length co77 : Value).ownBlock) ∧ some k_ ≠ (.slice Ao90 t691.length co90 : Value).ownBlock) ∧ some k_ ≠ (.slice Ao104 t697.length co104 : Value).ownBlock)) (n := t646.length) (c := co30) ?_).2.2; exact (zU HO648 BK701)); (case side2 => exact (jO HO648.out).2.1); (case side3 => refine (jO (e := 2) (base := w.heap.size) (ok := fun k_ => ((((((((some k_ ≠ (.slice Ao52 t661.length co52 : Value).ownBlock ∧ some k_ ≠ (.slice Ao19 t634.length co19 : Value).ownBlock) ∧ some k_ ≠ (.slice Ao21 t638.length co21 : Value).ownBlock) ∧ some k_ ≠ (.slice Ao30 t646.length co30 : Value).ownBlock) ∧ some k_ ≠ (.slice Ao34 t650.length co34 : Value).ownBlock) ∧ some k_ ≠ (.slice Ao62 t671.length co62 : Value).ownBlock) ∧ some k_ ≠ (.slice Ao77 t684.length co77 : Value).ownBlock) ∧ some k_ ≠ (.slice Ao90 t691.length co90 : Value).ownBlock) ∧ some k_ ≠ (.slice Ao104 t697.length co104 : Value).ownBlock)) (n := t657.length) (c := co46) ?_).2.2; exact (zU HO659 BK701)); (case side4 => exact (jO HO659.out).2.1); rintro e w133 ⟨rfl, hb⟩; replace HO632 := jA (jE (zU HO632 BK701) hb); replace HO636 := jA (jE (zU HO636 BK701) hb); replace HO640 := jA (jE (zU HO640 BK701) hb); replace HO648 := jA (jE (zU HO648 BK701) hb); replace HO652 := jA (jE (zU HO652 BK701) hb); replace HO659 := jA (jE (zU HO659 BK701) hb); replace HO663 := jA (jE (zU HO663 BK701) hb); replace HO669 := jA (jE (zU HO669 BK701) hb); replace HO673 := jA (jE (zU HO673 BK701) hb); replace HO682 := jA (jE (zU HO682 BK701) hb); replace HO686 := jA (jE (zU HO686 BK701) hb); replace HO693 := jA (jE (zU HO693 BK701) hb); replace HO699 := jA (jE (zU HO699 BK701) hb); replace BK643 := jA (jT (g := gb643) (o := .cells #[.int .i64 t633, .slice Ao19 t634.length co19] 28 (0, 0)) (zQ1 BK643 NB643_701) hb); replace BK644 := jA (jT (g := gb644) (o := .cells #[.int .i64 t637, .slice Ao21 t638.length co21] 28 (0, 0)) (zQ1 BK644 NB644_701) hb); replace BK654 := jA (jT (g := gb654) (o := .cells #[.int .i64 t645, .slice Ao30 t646.length co30] 28 (0, 0)) (zQ1 BK654 NB654_701) hb); replace BK655 := jA (jT (g := gb655) (o := .cells #[.int .i64 t649, .slice Ao34 t650.length co34] 28 (0, 0)) (zQ1 BK655 NB655_701) hb); replace BK665 := jA (jT (g := gb665) (o := .cells #[.int .i64 t656, .slice Ao46 t657.length co46] 28 (0, 0)) (zQ1 BK665 NB665_701) hb); replace BK666 := jA (jT (g := gb666) (o := .cells #[.int .i64 t660, .slice Ao52 t661.length co52] 28 (0, 0)) (zQ1 BK666 NB666_701) hb); replace BK675 := jA (jT (g := gb675) (o := .cells #[.int .i64 t670, .slice Ao62 t671.length co62] 28 (0, 0)) (zQ1 BK675 NB675_701) hb); replace BK689 := jA (jT (g := gb689) (o := .cells #[.int .i64 t683, .slice Ao77 t684.length co77] 28 (0, 0)) (zQ1 BK689 NB689_701) hb); replace BK695 := jA (jT (g := gb695) (o := .cells #[.int .i64 t690, .slice Ao90 t691.length co90] 28 (0, 0)) (zQ1 BK695 NB695_701) hb); replace BK701 := jA (jT (g := gb701) (o := .cells #[.int .i64 t696, .slice Ao104 t697.length co104] 28 (0, 0)) (zP0 BK701) hb); replace HB := zS10 HB GE643 GE644 GE654 GE655 GE665 GE666 GE675 GE689 GE695 GE701 hb; (try clear hb); (try clear hb2); (try clear hk); (try clear hi); have hnb134 := NB655_643.out; have hnc134 := NB643_655.out; have hnb135 := NB655_644.out; have hnc135 := NB644_655.out; have hnb136 := NB655_666.out; have hnc136 := NB666_655.out; have hnb137 := NB655_675.out; have hnc137 := NB675_655.out; have hnb138 := NB655_689.out; have hnc138 := NB689_655.out; have hnb139 := NB655_695.out; have hnc139 := NB695_655.out; have hnb140 := NB655_701.out; have hnc140 := NB701_655.out; have hcz141 := zc2 BK655; have hnb142 := NB666_643.out; have hnc142 := NB643_666.out; have hnb143 := NB666_644.out; have hnc143 := NB644_666.out; have hnb144 := NB666_675.out; have hnc144 := NB675_666.out; have hnb145 := NB666_689.out; have hnc145 := NB689_666.out; have hnb146 := NB666_695.out; have hnc146 := NB695_666.out; have hnb147 := NB666_701.out; have hnc147 := NB701_666.out; have hcz148 := zc2 BK666) | (go_at_call 42; (with_reducible refine (laws_likeMagazine.calls k t649 _ _ t650 t660 _ _ t661 true _ ?side1 ?side2 ?side3 ?side4 A108.out).mono ?_); (case side1 => exact zv HO652); (case side2 => exact (jO HO652.out).2.1); (case side3 => exact zv HO663); (case side4 => exact (jO HO663.out).2.1); rintro e w149 ⟨rfl, hb⟩; replace HO632 := jA (jE (zo HO632) hb); replace HO636 := jA (jE (zo HO636) hb); replace HO640 := jA (jE (zo HO640) hb); replace HO648 := jA (jE (zo HO648) hb); replace HO652 := jA (jE (zo HO652) hb); replace HO659 := jA (jE (zo HO659) hb); replace HO663 := jA (jE (zo HO663) hb); replace HO669 := jA (jE (zo HO669) hb); replace HO673 := jA (jE (zo HO673) hb); replace HO682 := jA (jE (zo HO682) hb); replace HO686 := jA (jE (zo HO686) hb); replace HO693 := jA (jE (zo HO693) hb); replace HO699 := jA (jE (zo HO699) hb); replace BK643 := zB BK643 hb; replace BK644 := zB BK644 hb; replace BK654 := zB BK654 hb; replace BK655 := zB BK655 hb; replace BK665 := zB BK665 hb; replace BK666 := zB BK666 hb; replace BK675 := zB BK675 hb; replace BK689 := zB BK689 hb; replace BK695 := zB BK695 hb; replace BK701 := zB BK701 hb; replace HB := zS10 HB GE643 GE644 GE654 GE655 GE665 GE666 GE675 GE689 GE695 GE701 hb; (try clear hb); (try clear hb2); (try clear hk); (try clear hi); have hnb150 := NB695_643.out; have hnc150 := NB643_695.out; have hnb151 := NB695_644.out; have hnc151 := NB644_695.out; have hnb152 := NB695_675.out; have hnc152 := NB675_695.out; have hnb153 := NB695_689.out; have hnc153 := NB689_695.out; have hnb154 := NB695_701.out; have hnc154 := NB701_695.out; have hcz155 := zc2 BK695; have hnb156 := NB701_643.out; have hnc156 := NB643_701.out; have hnb157 := NB701_644.out; have hnc157 := NB644_701.out; have hnb158 := NB701_675.out; have hnc158 := NB675_701.out; have hnb159 := NB701_689.out; have hnc159 := NB689_701.out; have hcz160 := zc2 BK701) | (go_at_call 42; (with_reducible refine (laws_likeMagazine.calls k t690 _ _ t691 t696 _ _ t697 t704 _ ?side1 ?side2 ?side3 ?side4 A113.out).mono ?_); (case side1 => exact zv HO693); (case side2 => exact (jO HO693.out).2.1); (case side3 => exact zv HO699); (case side4 => exact (jO HO699.out).2.1); rintro e w161 ⟨rfl, hb⟩; replace HO632 := jA (jE (zo HO632) hb); replace HO636 := jA (jE (zo HO636) hb); replace HO640 := jA (jE (zo HO640) hb); replace HO648 := jA (jE (zo HO648) hb); replace HO652 := jA (jE (zo HO652) hb); replace HO659 := jA (jE (zo HO659) hb); replace HO663 := jA (jE (zo HO663) hb); replace HO669 := jA (jE (zo HO669) hb); replace HO673 := jA (jE (zo HO673) hb); replace HO682 := jA (jE (zo HO682) hb); replace HO686 := jA (jE (zo HO686) hb); replace HO693 := jA (jE (zo HO693) hb); replace HO699 := jA (jE (zo HO699) hb); replace BK643 := zB BK643 hb; replace BK644 := zB BK644 hb; replace BK654 := zB BK654 hb; replace BK655 := zB BK655 hb; replace BK665 := zB BK665 hb; replace BK666 := zB BK666 hb; replace BK675 := zB BK675 hb; replace BK689 := zB BK689 hb; replace BK695 := zB BK695 hb; replace BK701 := zB BK701 hb; replace HB := zS10 HB GE643 GE644 GE654 GE655 GE665 GE666 GE675 GE689 GE695 GE701 hb; (try clear hb); (try clear hb2); (try clear hk); (try clear hi)))
         go_meet
         case rel => exact ⟨_, (!t704), zz, H', ⟨by first | omega | exact Nat.le_refl _⟩, ⟨by (with_reducible repeat (first | apply jR | apply jQ | apply jP)); exact Kd.R_mono HO632.out (fun _ hk => ⟨hk.1.2, hk.2⟩)⟩, ⟨by (with_reducible repeat (first | apply jR | apply jQ | apply jP)); exact Kd.R_mono HO669.out (fun _ hk => ⟨hk.1.2, hk.2⟩)⟩, ⟨by (with_reducible repeat (first | apply jR | apply jQ | apply jP)); exact Kd.R_mono HO682.out (fun _ hk => ⟨hk.1.2, hk.2⟩)⟩, ⟨by (with_reducible repeat (first | apply jR | apply jQ | apply jP)); exact Kd.R_mono HO636.out (fun _ hk => ⟨hk.1.1.1.1.1.1.1.1, ⟨hk.1.1.1.1.1.1.1.2, ⟨hk.1.1.1.1.1.1.2, ⟨hk.1.1.1.1.1.2, ⟨hk.1.1.1.1.2, ⟨hk.1.1.1.2, ⟨hk.1.1.2, ⟨hk.1.2, hk.2⟩⟩⟩⟩⟩⟩⟩⟩)⟩, ⟨by (with_reducible repeat (first | apply jR | apply jQ | apply jP)); exact Kd.R_mono HO640.out (fun _ hk => ⟨hk.1.1.1.1.1.1.1.1, ⟨hk.1.1.1.1.1.1.1.2, ⟨hk.1.1.1.1.1.1.2, ⟨hk.1.1.1.1.1.2, ⟨hk.1.1.1.1.2, ⟨hk.1.1.1.2, ⟨hk.1.1.2, ⟨hk.1.2, hk.2⟩⟩⟩⟩⟩⟩⟩⟩)⟩, ⟨by (with_reducible repeat (first | apply jR | apply jQ | apply jP)); exact Kd.R_mono HO648.out (fun _ hk => ⟨hk.1.1.1.1.1.1.1.2, ⟨hk.1.1.1.1.1.1.2, ⟨hk.1.1.1.1.1.1.1.1, ⟨hk.1.1.1.1.1.2, ⟨hk.1.1.1.1.2, ⟨hk.1.1.1.2, ⟨hk.1.1.2, ⟨hk.1.2, hk.2⟩⟩⟩⟩⟩⟩⟩⟩)⟩, ⟨by (with_reducible repeat (first | apply jR | apply jQ | apply jP)); exact Kd.R_mono HO652.out (fun _ hk => ⟨hk.1.1.1.1.1.1.1.2, ⟨hk.1.1.1.1.1.1.2, ⟨hk.1.1.1.1.1.1.1.1, ⟨hk.1.1.1.1.1.2, ⟨hk.1.1.1.1.2, ⟨hk.1.1.1.2, ⟨hk.1.1.2, ⟨hk.1.2, hk.2⟩⟩⟩⟩⟩⟩⟩⟩)⟩, ⟨by (with_reducible repeat (first | apply jR | apply jQ | apply jP)); exact Kd.R_mono HO659.out (fun _ hk => ⟨hk.1.1.1.1.1.1.1.2, ⟨hk.1.1.1.1.1.1.2, ⟨hk.1.1.1.1.1.2, ⟨hk.1.1.1.1.2, ⟨hk.1.1.1.1.1.1.1.1, ⟨hk.1.1.1.2, ⟨hk.1.1.2, ⟨hk.1.2, hk.2⟩⟩⟩⟩⟩⟩⟩⟩)⟩, ⟨by (with_reducible repeat (first | apply jR | apply jQ | apply jP)); exact Kd.R_mono HO663.out (fun _ hk => ⟨hk.1.1.1.1.1.1.1.2, ⟨hk.1.1.1.1.1.1.2, ⟨hk.1.1.1.1.1.2, ⟨hk.1.1.1.1.2, ⟨hk.1.1.1.1.1.1.1.1, ⟨hk.1.1.1.2, ⟨hk.1.1.2, ⟨hk.1.2, hk.2⟩⟩⟩⟩⟩⟩⟩⟩)⟩, ⟨by (with_reducible repeat (first | apply jR | apply jQ | apply jP)); exact Kd.R_mono HO673.out (fun _ hk => ⟨hk.1.1.1.1.1.1.1.1.2, ⟨hk.1.1.1.1.1.1.1.2, ⟨hk.1.1.1.1.1.1.2, ⟨hk.1.1.1.1.1.2, ⟨hk.1.1.1.1.2, ⟨hk.1.1.1.2, ⟨hk.1.1.2, ⟨hk.1.2, hk.2⟩⟩⟩⟩⟩⟩⟩⟩)⟩, ⟨by (with_reducible repeat (first | apply jR | apply jQ | apply jP)); exact Kd.R_mono HO686.out (fun _ hk => ⟨hk.1.1.1.1.1.1.1.1.2, ⟨hk.1.1.1.1.1.1.1.2, ⟨hk.1.1.1.1.1.1.2, ⟨hk.1.1.1.1.1.2, ⟨hk.1.1.1.1.2, ⟨hk.1.1.1.2, ⟨hk.1.1.2, ⟨hk.1.2, hk.2⟩⟩⟩⟩⟩⟩⟩⟩)⟩, ⟨by (with_reducible repeat (first | apply jR | apply jQ | apply jP)); exact Kd.R_mono HO693.out (fun _ hk => ⟨hk.1.1.1.1.1.1.1.1.2, ⟨hk.1.1.1.1.1.1.1.2, ⟨hk.1.1.1.1.1.1.2, ⟨hk.1.1.1.1.1.2, ⟨hk.1.1.1.1.2, ⟨hk.1.1.1.2, ⟨hk.1.1.2, ⟨hk.1.2, hk.2⟩⟩⟩⟩⟩⟩⟩⟩)⟩, ⟨by (with_reducible repeat (first | apply jR | apply jQ | apply jP)); exact Kd.R_mono HO699.out (fun _ hk => ⟨hk.1.1.1.1.1.1.1.1.2, ⟨hk.1.1.1.1.1.1.1.2, ⟨hk.1.1.1.1.1.1.2, ⟨hk.1.1.1.1.1.2, ⟨hk.1.1.1.1.2, ⟨hk.1.1.1.2, ⟨hk.1.1.2, ⟨hk.1.2, hk.2⟩⟩⟩⟩⟩⟩⟩⟩)⟩, ⟨zk BK643⟩, ⟨zk BK644⟩, ⟨zk BK654⟩, ⟨zk BK655⟩, ⟨zk BK665⟩, ⟨zk BK666⟩, ⟨zk BK675⟩, ⟨zk BK689⟩, ⟨zk BK695⟩, ⟨zk BK701⟩, ⟨zb10 HB GE643 GE644 GE654 GE655 GE665 GE666 GE675 GE689 GE695 GE701⟩⟩
        ·rw [if_neg c112] at H
         exact absurd H (by simp)
       ·rw [if_neg c111] at H
        exact absurd H (by simp)
      ·rw [if_neg c110] at H
       exact absurd H (by simp)
     ·replace c109 := Bool.eq_false_iff.mpr c109
      subst c109
      have H1 : (none) = some r := by rw [if_neg (show ¬ (false = true) by decide)] at H; exact H
      exact absurd H1 (by simp)
    ·replace c107 := Bool.eq_false_iff.mpr c107
     subst c107
     have H1 : (none) = some r := by rw [if_neg (show ¬ (false = true) by decide)] at H; exact H
     exact absurd H1 (by simp)
   ·rw [if_neg c105] at H
    exact absurd H (by simp)
  case rest =>
   clear HC13
   try clear c1
   try clear c2
   try clear p2
   try clear c3
   try clear c4
   try clear c5
   try clear c6
   try clear c7
   try clear c8
   try clear c9
   try clear c10
   try clear c11
   try clear c12
   try clear c13
   try clear c14
   try clear c15
   try clear c16
   try clear c17
   try clear c18
   try clear c19
   try clear c20
   try clear c21
   try clear c22
   try clear c23
   try clear c24
   try clear c25
   try clear c26
   try clear c27
   try clear c28
   try clear c29
   try clear c30
   try clear c31
   try clear c32
   try clear c40
   try clear c41
   try clear c42
   try clear c43
   try clear c44
   try clear c47
   try clear c48
   try clear c49
   try clear c50
   try clear c55
   try clear c56
   try clear c57
   try clear c58
   try clear c59
   try clear c60
   try clear c69
   try clear c70
   try clear c71
   try clear c72
   try clear c73
   try clear c74
   try clear c75
   try clear c81
   try clear c82
   try clear c83
   try clear c84
   try clear c85
   try clear c86
   try clear c87
   try clear c88
   try clear c94
   try clear c95
   try clear c96
   try clear c97
   try clear c98
   try clear c99
   try clear c100
   try clear c101
   try clear c102
   try clear c105
   try clear c105b0
   try clear c105b1
   try clear c107
   try clear c109
   try clear c110
   try clear c110b0
   try clear c110b1
   try clear c111
   try clear c111b0
   try clear c111b1
   try clear c112
   try clear c112b0
   try clear c112b1
   try clear c114
   try clear c115
   try clear c116
   try clear c117
   try clear c118
   try clear c119
   try clear c120
   try clear c121
   try clear c122
   try clear c124
   try clear c125
   try clear c126
   try clear c127
   try clear c128
   try clear c129
   try clear c130
   try clear c131
   try clear c134
   try clear c135
   try clear c136
   try clear c137
   try clear c138
   try clear c139
   try clear c140
   try clear c142
   try clear c143
   try clear c144
   try clear c145
   try clear c146
   try clear c147
   try clear c150
   try clear c151
   try clear c152
   try clear c153
   try clear c154
   try clear c156
   try clear c157
   try clear c158
   try clear c159
   try clear c162
   try clear c163
   try clear c164
   try clear c165
   try clear c166
   try clear c167
   try clear c168
   try clear c169
   try clear c170
   try clear c172
   try clear c173
   try clear c174
   try clear c175
   try clear c176
   try clear c177
   try clear c178
   try clear c179
   try clear c182
   try clear c183
   try clear c184
   try clear c185
   try clear c186
   try clear c187
   try clear c188
   try clear c190
   try clear c191
   try clear c192
   try clear c193
   try clear c194
   try clear c195
   try clear c198
   try clear c199
   try clear c200
   try clear c201
   try clear c202
   try clear c203
   try clear c204
   try clear c205
   try clear c206
   try clear c208
   try clear c209
   try clear c210
   try clear c211
   try clear c212
   try clear c213
   try clear c214
   try clear c215
   try clear c218
   try clear c219
   try clear c220
   try clear c221
   try clear c222
   try clear c223
   try clear c224
   try clear c226
   try clear c227
   try clear c228
   try clear c229
   try clear c230
   try clear c231
   try clear c234
   try clear c235
   try clear c236
   try clear c237
   try clear c238
   try clear c239
   try clear c240
   try clear c241
   try clear c242
   try clear c244
   try clear c245
   try clear c246
   try clear c247
   try clear c248
   try clear c249
   try clear c250
   try clear c251
   try clear c254
   try clear c255
   try clear c256
   try clear c257
   try clear c258
   try clear c259
   try clear c260
   try clear c262
   try clear c263
   try clear c264
   try clear c265
   try clear c266
   try clear c267
   try clear c270
   try clear c271
   try clear c272
   try clear c273
   try clear c274
   try clear c275
   try clear c276
   try clear c277
   try clear c278
   try clear c280
   try clear c281
   try clear c282
   try clear c283
   try clear c284
   try clear c285
   try clear c286
   try clear c287
   try clear c290
   try clear c291
   try clear c292
   try clear c293
   try clear c294
   try clear c295
   try clear c296
   try clear c298
   try clear c299
   try clear c300
   try clear c301
   try clear c302
   try clear c303
   try clear c306
   try clear c307
   try clear c308
   try clear c309
   try clear c310
   try clear c311
   try clear c312
   try clear c313
   try clear c314
   try clear c316
   try clear c317
   try clear c318
   try clear c319
   try clear c320
   try clear c321
   try clear c322
   try clear c323
   try clear hcz103
   try clear hcz123
   try clear hcz132
   try clear hcz141
   try clear hcz148
   try clear hcz155
   try clear hcz160
   try clear hcz171_0
   try clear hcz171_1
   try clear hcz180_0
   try clear hcz180_1
   try clear hcz189_0
   try clear hcz189_1
   try clear hcz18
   try clear hcz196_0
   try clear hcz196_1
   try clear hcz207_0
   try clear hcz207_1
   try clear hcz20
   try clear hcz216_0
   try clear hcz216_1
   try clear hcz225_0
   try clear hcz225_1
   try clear hcz232_0
   try clear hcz232_1
   try clear hcz243_0
   try clear hcz243_1
   try clear hcz252_0
   try clear hcz252_1
   try clear hcz261_0
   try clear hcz261_1
   try clear hcz268_0
   try clear hcz268_1
   try clear hcz279_0
   try clear hcz279_1
   try clear hcz288_0
   try clear hcz288_1
   try clear hcz297_0
   try clear hcz297_1
   try clear hcz29
   try clear hcz304_0
   try clear hcz304_1
   try clear hcz315_0
   try clear hcz315_1
   try clear hcz324_0
   try clear hcz324_1
   try clear hcz33
   try clear hcz35
   try clear hcz36
   try clear hcz45
   try clear hcz51
   try clear hcz61
   try clear hcz65
   try clear hcz76
   try clear hcz89
   try clear hcz91
   try clear hfz171_0
   try clear hfz171_1
   try clear hfz180_0
   try clear hfz180_1
   try clear hfz189_0
   try clear hfz189_1
   try clear hfz196_0
   try clear hfz196_1
   try clear hfz207_0
   try clear hfz207_1
   try clear hfz216_0
   try clear hfz216_1
   try clear hfz225_0
   try clear hfz225_1
   try clear hfz232_0
   try clear hfz232_1
   try clear hfz243_0
   try clear hfz243_1
   try clear hfz252_0
   try clear hfz252_1
   try clear hfz261_0
   try clear hfz261_1
   try clear hfz268_0
   try clear hfz268_1
   try clear hfz279_0
   try clear hfz279_1
   try clear hfz288_0
   try clear hfz288_1
   try clear hfz297_0
   try clear hfz297_1
   try clear hfz304_0
   try clear hfz304_1
   try clear hfz315_0
   try clear hfz315_1
   try clear hfz324_0
   try clear hfz324_1
   obtain ⟨kq, x146_12, rfl, HA, HJ12, HO_3, HO_14, HO_21, HO_644001, HO_645001, HO_655001, HO_656001, HO_666001, HO_667001, HO_676001, HO_690001, HO_696001, HO_702001, BK643, BK644, BK654, BK655, BK665, BK666, BK675, BK689, BK695, BK701, HB⟩ := hcut
   cases kq with
   | zero => exact absurd HA.out (by simp [laws_FnMoved.j0])
   | succ kj12 =>
    have H := HA.out
    clear HA
    simp only [laws_FnMoved.j0] at H
    by_cases c326 : x146_12 = true
    ·subst c326
     have H1 : (none) = some r := by rw [if_pos rfl] at H; exact H
     exact absurd H1 (by simp)
    ·as_aux_lemma =>
     replace c326 := Bool.eq_false_iff.mpr c326
     subst c326
     rw [if_neg zfalse] at H
     have HC327 := jA H
     clear H
     go_upto_if 148 with (fail)
     repeat (go_quiet (fail); go_upto_if 148 with (fail))
     go_cut [] (fun wc => ∃ (kq : Nat), Aside0 (laws_FnMoved.j1 kq t630 t653 t667 t674 t676 t677 t633 t634 t637 t638 t645 t646 t649 t650 t670 t671 = some r) ∧ Aside0 (kq ≤ kj12) ∧ Aside0 (Kd.R k65 65 wc w.heap.size (fun k_ => some k_ ≠ ((.slice Ao63 t667.length co63) : Value).ownBlock) (.slice Ao22 t630.length co22) t630) ∧ Aside0 (Kd.R k65 65 wc w.heap.size (fun k_ => some k_ ≠ ((.slice Ao22 t630.length co22) : Value).ownBlock) (.slice Ao63 t667.length co63) t667) ∧ Aside0 (Kd.R (Kd.int .i64) 2 wc w.heap.size (fun k_ => some k_ ≠ ((.slice Ao21 t638.length co21) : Value).ownBlock ∧ some k_ ≠ ((.slice Ao30 t646.length co30) : Value).ownBlock ∧ some k_ ≠ ((.slice Ao34 t650.length co34) : Value).ownBlock ∧ some k_ ≠ ((.slice Ao46 t657.length co46) : Value).ownBlock ∧ some k_ ≠ ((.slice Ao52 t661.length co52) : Value).ownBlock ∧ some k_ ≠ ((.slice Ao62 t671.length co62) : Value).ownBlock ∧ some k_ ≠ ((.slice Ao77 t684.length co77) : Value).ownBlock ∧ some k_ ≠ ((.slice Ao90 t691.length co90) : Value).ownBlock ∧ some k_ ≠ ((.slice Ao104 t697.length co104) : Value).ownBlock) (.slice Ao19 t634.length co19) t634) ∧ Aside0 (Kd.R (Kd.int .i64) 2 wc w.heap.size (fun k_ => some k_ ≠ ((.slice Ao19 t634.length co19) : Value).ownBlock ∧ some k_ ≠ ((.slice Ao30 t646.length co30) : Value).ownBlock ∧ some k_ ≠ ((.slice Ao34 t650.length co34) : Value).ownBlock ∧ some k_ ≠ ((.slice Ao46 t657.length co46) : Value).ownBlock ∧ some k_ ≠ ((.slice Ao52 t661.length co52) : Value).ownBlock ∧ some k_ ≠ ((.slice Ao62 t671.length co62) : Value).ownBlock ∧ some k_ ≠ ((.slice Ao77 t684.length co77) : Value).ownBlock ∧ some k_ ≠ ((.slice Ao90 t691.length co90) : Value).ownBlock ∧ some k_ ≠ ((.slice Ao104 t697.length co104) : Value).ownBlock) (.slice Ao21 t638.length co21) t638) ∧ Aside0 (Kd.R (Kd.int .i64) 2 wc w.heap.size (fun k_ => some k_ ≠ ((.slice Ao19 t634.length co19) : Value).ownBlock ∧ some k_ ≠ ((.slice Ao21 t638.length co21) : Value).ownBlock ∧ some k_ ≠ ((.slice Ao34 t650.length co34) : Value).ownBlock ∧ some k_ ≠ ((.slice Ao46 t657.length co46) : Value).ownBlock ∧ some k_ ≠ ((.slice Ao52 t661.length co52) : Value).ownBlock ∧ some k_ ≠ ((.slice Ao62 t671.length co62) : Value).ownBlock ∧ some k_ ≠ ((.slice Ao77 t684.length co77) : Value).ownBlock ∧ some k_ ≠ ((.slice Ao90 t691.length co90) : Value).ownBlock ∧ some k_ ≠ ((.slice Ao104 t697.length co104) : Value).ownBlock) (.slice Ao30 t646.length co30) t646) ∧ Aside0 (Kd.R (Kd.int .i64) 2 wc w.heap.size (fun k_ => some k_ ≠ ((.slice Ao19 t634.length co19) : Value).ownBlock ∧ some k_ ≠ ((.slice Ao21 t638.length co21) : Value).ownBlock ∧ some k_ ≠ ((.slice Ao30 t646.length co30) : Value).ownBlock ∧ some k_ ≠ ((.slice Ao46 t657.length co46) : Value).ownBlock ∧ some k_ ≠ ((.slice Ao52 t661.length co52) : Value).ownBlock ∧ some k_ ≠ ((.slice Ao62 t671.length co62) : Value).ownBlock ∧ some k_ ≠ ((.slice Ao77 t684.length co77) : Value).ownBlock ∧ some k_ ≠ ((.slice Ao90 t691.length co90) : Value).ownBlock ∧ some k_ ≠ ((.slice Ao104 t697.length co104) : Value).ownBlock) (.slice Ao34 t650.length co34) t650) ∧ Aside0 (Kd.R (Kd.int .i64) 2 wc w.heap.size (fun k_ => some k_ ≠ ((.slice Ao19 t634.length co19) : Value).ownBlock ∧ some k_ ≠ ((.slice Ao21 t638.length co21) : Value).ownBlock ∧ some k_ ≠ ((.slice Ao30 t646.length co30) : Value).ownBlock ∧ some k_ ≠ ((.slice Ao34 t650.length co34) : Value).ownBlock ∧ some k_ ≠ ((.slice Ao52 t661.length co52) : Value).ownBlock ∧ some k_ ≠ ((.slice Ao62 t671.length co62) : Value).ownBlock ∧ some k_ ≠ ((.slice Ao77 t684.length co77) : Value).ownBlock ∧ some k_ ≠ ((.slice Ao90 t691.length co90) : Value).ownBlock ∧ some k_ ≠ ((.slice Ao104 t697.length co104) : Value).ownBlock) (.slice Ao46 t657.length co46) t657) ∧ Aside0 (Kd.R (Kd.int .i64) 2 wc w.heap.size (fun k_ => some k_ ≠ ((.slice Ao19 t634.length co19) : Value).ownBlock ∧ some k_ ≠ ((.slice Ao21 t638.length co21) : Value).ownBlock ∧ some k_ ≠ ((.slice Ao30 t646.length co30) : Value).ownBlock ∧ some k_ ≠ ((.slice Ao34 t650.length co34) : Value).ownBlock ∧ some k_ ≠ ((.slice Ao46 t657.length co46) : Value).ownBlock ∧ some k_ ≠ ((.slice Ao62 t671.length co62) : Value).ownBlock ∧ some k_ ≠ ((.slice Ao77 t684.length co77) : Value).ownBlock ∧ some k_ ≠ ((.slice Ao90 t691.length co90) : Value).ownBlock ∧ some k_ ≠ ((.slice Ao104 t697.length co104) : Value).ownBlock) (.slice Ao52 t661.length co52) t661) ∧ Aside0 (Kd.R (Kd.int .i64) 2 wc w.heap.size (fun k_ => some k_ ≠ ((.slice Ao19 t634.length co19) : Value).ownBlock ∧ some k_ ≠ ((.slice Ao21 t638.length co21) : Value).ownBlock ∧ some k_ ≠ ((.slice Ao30 t646.length co30) : Value).ownBlock ∧ some k_ ≠ ((.slice Ao34 t650.length co34) : Value).ownBlock ∧ some k_ ≠ ((.slice Ao46 t657.length co46) : Value).ownBlock ∧ some k_ ≠ ((.slice Ao52 t661.length co52) : Value).ownBlock ∧ some k_ ≠ ((.slice Ao77 t684.length co77) : Value).ownBlock ∧ some k_ ≠ ((.slice Ao90 t691.length co90) : Value).ownBlock ∧ some k_ ≠ ((.slice Ao104 t697.length co104) : Value).ownBlock) (.slice Ao62 t671.length co62) t671) ∧ Aside0 (Kd.R (Kd.int .i64) 2 wc w.heap.size (fun k_ => some k_ ≠ ((.slice Ao19 t634.length co19) : Value).ownBlock ∧ some k_ ≠ ((.slice Ao21 t638.length co21) : Value).ownBlock ∧ some k_ ≠ ((.slice Ao30 t646.length co30) : Value).ownBlock ∧ some k_ ≠ ((.slice Ao34 t650.length co34) : Value).ownBlock ∧ some k_ ≠ ((.slice Ao46 t657.length co46) : Value).ownBlock ∧ some k_ ≠ ((.slice Ao52 t661.length co52) : Value).ownBlock ∧ some k_ ≠ ((.slice Ao62 t671.length co62) : Value).ownBlock ∧ some k_ ≠ ((.slice Ao90 t691.length co90) : Value).ownBlock ∧ some k_ ≠ ((.slice Ao104 t697.length co104) : Value).ownBlock) (.slice Ao77 t684.length co77) t684) ∧ Aside0 (Kd.R (Kd.int .i64) 2 wc w.heap.size (fun k_ => some k_ ≠ ((.slice Ao19 t634.length co19) : Value).ownBlock ∧ some k_ ≠ ((.slice Ao21 t638.length co21) : Value).ownBlock ∧ some k_ ≠ ((.slice Ao30 t646.length co30) : Value).ownBlock ∧ some k_ ≠ ((.slice Ao34 t650.length co34) : Value).ownBlock ∧ some k_ ≠ ((.slice Ao46 t657.length co46) : Value).ownBlock ∧ some k_ ≠ ((.slice Ao52 t661.length co52) : Value).ownBlock ∧ some k_ ≠ ((.slice Ao62 t671.length co62) : Value).ownBlock ∧ some k_ ≠ ((.slice Ao77 t684.length co77) : Value).ownBlock ∧ some k_ ≠ ((.slice Ao104 t697.length co104) : Value).ownBlock) (.slice Ao90 t691.length co90) t691) ∧ Aside0 (Kd.R (Kd.int .i64) 2 wc w.heap.size (fun k_ => some k_ ≠ ((.slice Ao19 t634.length co19) : Value).ownBlock ∧ some k_ ≠ ((.slice Ao21 t638.length co21) : Value).ownBlock ∧ some k_ ≠ ((.slice Ao30 t646.length co30) : Value).ownBlock ∧ some k_ ≠ ((.slice Ao34 t650.length co34) : Value).ownBlock ∧ some k_ ≠ ((.slice Ao46 t657.length co46) : Value).ownBlock ∧ some k_ ≠ ((.slice Ao52 t661.length co52) : Value).ownBlock ∧ some k_ ≠ ((.slice Ao62 t671.length co62) : Value).ownBlock ∧ some k_ ≠ ((.slice Ao77 t684.length co77) : Value).ownBlock ∧ some k_ ≠ ((.slice Ao90 t691.length co90) : Value).ownBlock) (.slice Ao104 t697.length co104) t697) ∧ Aside0 (wc.heap[gb643]? = some (.cells #[.int .i64 t633, (.slice Ao19 t634.length co19)] 28 (0, 0))) ∧ Aside0 (wc.heap[gb644]? = some (.cells #[.int .i64 t637, (.slice Ao21 t638.length co21)] 28 (0, 0))) ∧ Aside0 (wc.heap[gb654]? = some (.cells #[.int .i64 t645, (.slice Ao30 t646.length co30)] 28 (0, 0))) ∧ Aside0 (wc.heap[gb655]? = some (.cells #[.int .i64 t649, (.slice Ao34 t650.length co34)] 28 (0, 0))) ∧ Aside0 (wc.heap[gb665]? = some (.cells #[.int .i64 t656, (.slice Ao46 t657.length co46)] 28 (0, 0))) ∧ Aside0 (wc.heap[gb666]? = some (.cells #[.int .i64 t660, (.slice Ao52 t661.length co52)] 28 (0, 0))) ∧ Aside0 (wc.heap[gb675]? = some (.cells #[.int .i64 t670, (.slice Ao62 t671.length co62)] 28 (0, 0))) ∧ Aside0 (wc.heap[gb689]? = some (.cells #[.int .i64 t683, (.slice Ao77 t684.length co77)] 28 (0, 0))) ∧ Aside0 (wc.heap[gb695]? = some (.cells #[.int .i64 t690, (.slice Ao90 t691.length co90)] 28 (0, 0))) ∧ Aside0 (wc.heap[gb701]? = some (.cells #[.int .i64 t696, (.slice Ao104 t697.length co104)] 28 (0, 0))) ∧ Aside0 (Below w.heap.size w wc))
     case first =>
      have H := HC327.out
      clear HC327
      by_cases c328 : t694 = 0
      ·as_aux_lemma =>
       rw [if_pos c328] at H
       have c328b0 : (t694 == 0) = true := beq_iff_eq.mpr c328
       have c328b1 : (t694 != 0) = false := bne_eq_false_iff_eq.mpr c328
       clear c328
       (first | rw [c328b0] | (simp only [i64_w, i32_w]; rw [c328b0]) | skip)
       replace H := jB.mp H
       obtain ⟨⟨t705, t706⟩, A3290, H⟩ := H
       try dsimp only at H
       have A329 := jA A3290
       clear A3290
       replace H := jB.mp H
       obtain ⟨⟨t707, t708⟩, A3300, H⟩ := H
       try dsimp only at H
       have A330 := jA A3300
       clear A3300
       by_cases c331 : t706 = 0
       ·as_aux_lemma =>
        rw [if_pos c331] at H
        have c331b0 : (t706 == 0) = true := beq_iff_eq.mpr c331
        have c331b1 : (t706 != 0) = false := bne_eq_false_iff_eq.mpr c331
        clear c331
        by_cases c332 : t708 = 0
        ·as_aux_lemma =>
         rw [if_pos c332] at H
         have c332b0 : (t708 == 0) = true := beq_iff_eq.mpr c332
         have c332b1 : (t708 != 0) = false := bne_eq_false_iff_eq.mpr c332
         clear c332
         by_cases c333 : t707 > t705
         ·rw [if_pos c333] at H
          exact absurd H (by simp)
         ·as_aux_lemma =>
          rw [if_neg c333] at H
          have c333b0 : decide (t705 < t707) = false := jV c333
          clear c333
          have H' := jA H
          clear H
          have hnb355 := NB689_643.out
          have hnc355 := NB643_689.out
          have hnb356 := NB689_644.out
          have hnc356 := NB644_689.out
          have hnb357 := NB689_654.out
          have hnc357 := NB654_689.out
          have hnb358 := NB689_655.out
          have hnc358 := NB655_689.out
          have hnb359 := NB689_665.out
          have hnc359 := NB665_689.out
          have hnb360 := NB689_666.out
          have hnc360 := NB666_689.out
          have hnb361 := NB689_675.out
          have hnc361 := NB675_689.out
          have hnb362 := NB689_695.out
          have hnc362 := NB695_689.out
          have hnb363 := NB689_701.out
          have hnc363 := NB701_689.out
          have hcz364 := zc2 BK689
          go_wp2_with (first | (go_at_call 28; (with_reducible refine (impl_NetIn.calls kj12 _ _ t680 t683 _ _ t684 t705 t706 _ ?side1 ?side2 ?side3 ?side4 A329.out).mono ?_); (case side1 => exact zv HO_21); (case side2 => exact (jO HO_21.out).2.1); (case side3 => exact zv HO_690001); (case side4 => exact (jO HO_690001.out).2.1); rintro e w365 ⟨rfl, hb⟩; replace HO_3 := jA (jE (zo HO_3) hb); replace HO_14 := jA (jE (zo HO_14) hb); replace HO_21 := jA (jE (zo HO_21) hb); replace HO_644001 := jA (jE (zo HO_644001) hb); replace HO_645001 := jA (jE (zo HO_645001) hb); replace HO_655001 := jA (jE (zo HO_655001) hb); replace HO_656001 := jA (jE (zo HO_656001) hb); replace HO_666001 := jA (jE (zo HO_666001) hb); replace HO_667001 := jA (jE (zo HO_667001) hb); replace HO_676001 := jA (jE (zo HO_676001) hb); replace HO_690001 := jA (jE (zo HO_690001) hb); replace HO_696001 := jA (jE (zo HO_696001) hb); replace HO_702001 := jA (jE (zo HO_702001) hb); replace BK643 := zB BK643 hb; replace BK644 := zB BK644 hb; replace BK654 := zB BK654 hb; replace BK655 := zB BK655 hb; replace BK665 := zB BK665 hb; replace BK666 := zB BK666 hb; replace BK675 := zB BK675 hb; replace BK689 := zB BK689 hb; replace BK695 := zB BK695 hb; replace BK701 := zB BK701 hb; replace HB := zS10 HB GE643 GE644 GE654 GE655 GE665 GE666 GE675 GE689 GE695 GE701 hb; (try clear hb); (try clear hb2); (try clear hk); (try clear hi); have hnb366 := NB695_643.out; have hnc366 := NB643_695.out; have hnb367 := NB695_644.out; have hnc367 := NB644_695.out; have hnb368 := NB695_654.out; have hnc368 := NB654_695.out; have hnb369 := NB695_655.out; have hnc369 := NB655_695.out; have hnb370 := NB695_665.out; have hnc370 := NB665_695.out; have hnb371 := NB695_666.out; have hnc371 := NB666_695.out; have hnb372 := NB695_675.out; have hnc372 := NB675_695.out; have hnb373 := NB695_701.out; have hnc373 := NB701_695.out; have hcz374 := zc2 BK695) | (go_at_call 28; (with_reducible refine (impl_NetIn.calls kj12 _ _ t680 t690 _ _ t691 t707 t708 _ ?side1 ?side2 ?side3 ?side4 A330.out).mono ?_); (case side1 => exact zv HO_21); (case side2 => exact (jO HO_21.out).2.1); (case side3 => exact zv HO_696001); (case side4 => exact (jO HO_696001.out).2.1); rintro e w375 ⟨rfl, hb⟩; replace HO_3 := jA (jE (zo HO_3) hb); replace HO_14 := jA (jE (zo HO_14) hb); replace HO_21 := jA (jE (zo HO_21) hb); replace HO_644001 := jA (jE (zo HO_644001) hb); replace HO_645001 := jA (jE (zo HO_645001) hb); replace HO_655001 := jA (jE (zo HO_655001) hb); replace HO_656001 := jA (jE (zo HO_656001) hb); replace HO_666001 := jA (jE (zo HO_666001) hb); replace HO_667001 := jA (jE (zo HO_667001) hb); replace HO_676001 := jA (jE (zo HO_676001) hb); replace HO_690001 := jA (jE (zo HO_690001) hb); replace HO_696001 := jA (jE (zo HO_696001) hb); replace HO_702001 := jA (jE (zo HO_702001) hb); replace BK643 := zB BK643 hb; replace BK644 := zB BK644 hb; replace BK654 := zB BK654 hb; replace BK655 := zB BK655 hb; replace BK665 := zB BK665 hb; replace BK666 := zB BK666 hb; replace BK675 := zB BK675 hb; replace BK689 := zB BK689 hb; replace BK695 := zB BK695 hb; replace BK701 := zB BK701 hb; replace HB := zS10 HB GE643 GE644 GE654 GE655 GE665 GE666 GE675 GE689 GE695 GE701 hb; (try clear hb); (try clear hb2); (try clear hk); (try clear hi)))
          go_meet
          case rel => exact ⟨_, H', ⟨by have := HJ12.out; first | omega | exact Nat.le_refl _⟩, ⟨by (with_reducible repeat (first | apply jR | apply jQ | apply jP)); exact Kd.R_mono HO_3.out (fun _ hk => hk.1)⟩, ⟨by (with_reducible repeat (first | apply jR | apply jQ | apply jP)); exact Kd.R_mono HO_14.out (fun _ hk => hk.1)⟩, ⟨zo HO_644001⟩, ⟨zo HO_645001⟩, ⟨zo HO_655001⟩, ⟨zo HO_656001⟩, ⟨zo HO_666001⟩, ⟨zo HO_667001⟩, ⟨zo HO_676001⟩, ⟨zo HO_690001⟩, ⟨zo HO_696001⟩, ⟨zo HO_702001⟩, ⟨zk BK643⟩, ⟨zk BK644⟩, ⟨zk BK654⟩, ⟨zk BK655⟩, ⟨zk BK665⟩, ⟨zk BK666⟩, ⟨zk BK675⟩, ⟨zk BK689⟩, ⟨zk BK695⟩, ⟨zk BK701⟩, ⟨zb10 HB GE643 GE644 GE654 GE655 GE665 GE666 GE675 GE689 GE695 GE701⟩⟩
        ·rw [if_neg c332] at H
         exact absurd H (by simp)
       ·rw [if_neg c331] at H
        exact absurd H (by simp)
      ·rw [if_neg c328] at H
       have c328b0 : (t694 == 0) = false := beq_eq_false_iff_ne.mpr c328
       have c328b1 : (t694 != 0) = true := bne_iff_ne.mpr c328
       (first | rw [c328b0] | (simp only [i64_w, i32_w]; rw [c328b0]) | skip)
       have H' := jA H
       clear H
       go_wp2
       repeat (go_quiet (fail); try go_wp2)
       go_meet
       case rel => exact ⟨_, H', ⟨by have := HJ12.out; first | omega | exact Nat.le_refl _⟩, ⟨by (with_reducible repeat (first | apply jR | apply jQ | apply jP)); exact Kd.R_mono HO_3.out (fun _ hk => hk.1)⟩, ⟨by (with_reducible repeat (first | apply jR | apply jQ | apply jP)); exact Kd.R_mono HO_14.out (fun _ hk => hk.1)⟩, ⟨zo HO_644001⟩, ⟨zo HO_645001⟩, ⟨zo HO_655001⟩, ⟨zo HO_656001⟩, ⟨zo HO_666001⟩, ⟨zo HO_667001⟩, ⟨zo HO_676001⟩, ⟨zo HO_690001⟩, ⟨zo HO_696001⟩, ⟨zo HO_702001⟩, ⟨zk BK643⟩, ⟨zk BK644⟩, ⟨zk BK654⟩, ⟨zk BK655⟩, ⟨zk BK665⟩, ⟨zk BK666⟩, ⟨zk BK675⟩, ⟨zk BK689⟩, ⟨zk BK695⟩, ⟨zk BK701⟩, ⟨zb10 HB GE643 GE644 GE654 GE655 GE665 GE666 GE675 GE689 GE695 GE701⟩⟩
     case rest =>
      clear HC327
      try clear c1
      try clear c2
      try clear p2
      try clear c3
      try clear c4
      try clear c5
      try clear c6
      try clear c7
      try clear c8
      try clear c9
      try clear c10
      try clear c11
      try clear c12
      try clear c13
      try clear c14
      try clear c15
      try clear c16
      try clear c17
      try clear c18
      try clear c19
      try clear c20
      try clear c21
      try clear c22
      try clear c23
      try clear c24
      try clear c25
      try clear c26
      try clear c27
      try clear c28
      try clear c29
      try clear c30
      try clear c31
      try clear c32
      try clear c33
      try clear c34
      try clear c35
      try clear c36
      try clear c37
      try clear c38
      try clear c39
      try clear c40
      try clear c41
      try clear c42
      try clear c43
      try clear c44
      try clear c47
      try clear c48
      try clear c49
      try clear c50
      try clear c55
      try clear c56
      try clear c57
      try clear c58
      try clear c59
      try clear c60
      try clear c69
      try clear c70
      try clear c71
      try clear c72
      try clear c73
      try clear c74
      try clear c75
      try clear c81
      try clear c82
      try clear c83
      try clear c84
      try clear c85
      try clear c86
      try clear c87
      try clear c88
      try clear c94
      try clear c95
      try clear c96
      try clear c97
      try clear c98
      try clear c99
      try clear c100
      try clear c101
      try clear c102
      try clear c105
      try clear c105b0
      try clear c105b1
      try clear c107
      try clear c109
      try clear c110
      try clear c110b0
      try clear c110b1
      try clear c111
      try clear c111b0
      try clear c111b1
      try clear c112
      try clear c112b0
      try clear c112b1
      try clear c114
      try clear c115
      try clear c116
      try clear c117
      try clear c118
      try clear c119
      try clear c120
      try clear c121
      try clear c122
      try clear c124
      try clear c125
      try clear c126
      try clear c127
      try clear c128
      try clear c129
      try clear c130
      try clear c131
      try clear c134
      try clear c135
      try clear c136
      try clear c137
      try clear c138
      try clear c139
      try clear c140
      try clear c142
      try clear c143
      try clear c144
      try clear c145
      try clear c146
      try clear c147
      try clear c150
      try clear c151
      try clear c152
      try clear c153
      try clear c154
      try clear c156
      try clear c157
      try clear c158
      try clear c159
      try clear c162
      try clear c163
      try clear c164
      try clear c165
      try clear c166
      try clear c167
      try clear c168
      try clear c169
      try clear c170
      try clear c172
      try clear c173
      try clear c174
      try clear c175
      try clear c176
      try clear c177
      try clear c178
      try clear c179
      try clear c182
      try clear c183
      try clear c184
      try clear c185
      try clear c186
      try clear c187
      try clear c188
      try clear c190
      try clear c191
      try clear c192
      try clear c193
      try clear c194
      try clear c195
      try clear c198
      try clear c199
      try clear c200
      try clear c201
      try clear c202
      try clear c203
      try clear c204
      try clear c205
      try clear c206
      try clear c208
      try clear c209
      try clear c210
      try clear c211
      try clear c212
      try clear c213
      try clear c214
      try clear c215
      try clear c218
      try clear c219
      try clear c220
      try clear c221
      try clear c222
      try clear c223
      try clear c224
      try clear c226
      try clear c227
      try clear c228
      try clear c229
      try clear c230
      try clear c231
      try clear c234
      try clear c235
      try clear c236
      try clear c237
      try clear c238
      try clear c239
      try clear c240
      try clear c241
      try clear c242
      try clear c244
      try clear c245
      try clear c246
      try clear c247
      try clear c248
      try clear c249
      try clear c250
      try clear c251
      try clear c254
      try clear c255
      try clear c256
      try clear c257
      try clear c258
      try clear c259
      try clear c260
      try clear c262
      try clear c263
      try clear c264
      try clear c265
      try clear c266
      try clear c267
      try clear c270
      try clear c271
      try clear c272
      try clear c273
      try clear c274
      try clear c275
      try clear c276
      try clear c277
      try clear c278
      try clear c280
      try clear c281
      try clear c282
      try clear c283
      try clear c284
      try clear c285
      try clear c286
      try clear c287
      try clear c290
      try clear c291
      try clear c292
      try clear c293
      try clear c294
      try clear c295
      try clear c296
      try clear c298
      try clear c299
      try clear c300
      try clear c301
      try clear c302
      try clear c303
      try clear c306
      try clear c307
      try clear c308
      try clear c309
      try clear c310
      try clear c311
      try clear c312
      try clear c313
      try clear c314
      try clear c316
      try clear c317
      try clear c318
      try clear c319
      try clear c320
      try clear c321
      try clear c322
      try clear c323
      try clear c326
      try clear c328
      try clear c328b0
      try clear c328b1
      try clear c331
      try clear c331b0
      try clear c331b1
      try clear c332
      try clear c332b0
      try clear c332b1
      try clear c333
      try clear c333b0
      try clear c334
      try clear c335
      try clear c336
      try clear c337
      try clear c338
      try clear c339
      try clear c340
      try clear c341
      try clear c342
      try clear c345
      try clear c346
      try clear c347
      try clear c348
      try clear c349
      try clear c350
      try clear c351
      try clear c352
      try clear c355
      try clear c356
      try clear c357
      try clear c358
      try clear c359
      try clear c360
      try clear c361
      try clear c362
      try clear c363
      try clear c366
      try clear c367
      try clear c368
      try clear c369
      try clear c370
      try clear c371
      try clear c372
      try clear c373
      try clear c376
      try clear c377
      try clear c378
      try clear c379
      try clear c380
      try clear c381
      try clear c382
      try clear c383
      try clear c384
      try clear c387
      try clear c388
      try clear c389
      try clear c390
      try clear c391
      try clear c392
      try clear c393
      try clear c394
      try clear c397
      try clear c398
      try clear c399
      try clear c400
      try clear c401
      try clear c402
      try clear c403
      try clear c404
      try clear c405
      try clear c408
      try clear c409
      try clear c410
      try clear c411
      try clear c412
      try clear c413
      try clear c414
      try clear c415
      try clear hcz103
      try clear hcz123
      try clear hcz132
      try clear hcz141
      try clear hcz148
      try clear hcz155
      try clear hcz160
      try clear hcz171_0
      try clear hcz171_1
      try clear hcz180_0
      try clear hcz180_1
      try clear hcz189_0
      try clear hcz189_1
      try clear hcz18
      try clear hcz196_0
      try clear hcz196_1
      try clear hcz207_0
      try clear hcz207_1
      try clear hcz20
      try clear hcz216_0
      try clear hcz216_1
      try clear hcz225_0
      try clear hcz225_1
      try clear hcz232_0
      try clear hcz232_1
      try clear hcz243_0
      try clear hcz243_1
      try clear hcz252_0
      try clear hcz252_1
      try clear hcz261_0
      try clear hcz261_1
      try clear hcz268_0
      try clear hcz268_1
      try clear hcz279_0
      try clear hcz279_1
      try clear hcz288_0
      try clear hcz288_1
      try clear hcz297_0
      try clear hcz297_1
      try clear hcz29
      try clear hcz304_0
      try clear hcz304_1
      try clear hcz315_0
      try clear hcz315_1
      try clear hcz324_0
      try clear hcz324_1
      try clear hcz33
      try clear hcz343_0
      try clear hcz343_1
      try clear hcz353_0
      try clear hcz353_1
      try clear hcz35
      try clear hcz364
      try clear hcz36
      try clear hcz374
      try clear hcz385_0
      try clear hcz385_1
      try clear hcz395_0
      try clear hcz395_1
      try clear hcz406_0
      try clear hcz406_1
      try clear hcz416_0
      try clear hcz416_1
      try clear hcz45
      try clear hcz51
      try clear hcz61
      try clear hcz65
      try clear hcz76
      try clear hcz89
      try clear hcz91
      try clear hfz171_0
      try clear hfz171_1
      try clear hfz180_0
      try clear hfz180_1
      try clear hfz189_0
      try clear hfz189_1
      try clear hfz196_0
      try clear hfz196_1
      try clear hfz207_0
      try clear hfz207_1
      try clear hfz216_0
      try clear hfz216_1
      try clear hfz225_0
      try clear hfz225_1
      try clear hfz232_0
      try clear hfz232_1
      try clear hfz243_0
      try clear hfz243_1
      try clear hfz252_0
      try clear hfz252_1
      try clear hfz261_0
      try clear hfz261_1
      try clear hfz268_0
      try clear hfz268_1
      try clear hfz279_0
      try clear hfz279_1
      try clear hfz288_0
      try clear hfz288_1
      try clear hfz297_0
      try clear hfz297_1
      try clear hfz304_0
      try clear hfz304_1
      try clear hfz315_0
      try clear hfz315_1
      try clear hfz324_0
      try clear hfz324_1
      try clear hfz343_0
      try clear hfz343_1
      try clear hfz353_0
      try clear hfz353_1
      try clear hfz385_0
      try clear hfz385_1
      try clear hfz395_0
      try clear hfz395_1
      try clear hfz406_0
      try clear hfz406_1
      try clear hfz416_0
      try clear hfz416_1
      obtain ⟨kq, HA, HJ326, HO_3, HO_14, HO_644001, HO_645001, HO_655001, HO_656001, HO_666001, HO_667001, HO_676001, HO_690001, HO_696001, HO_702001, BK643, BK644, BK654, BK655, BK665, BK666, BK675, BK689, BK695, BK701, HB⟩ := hcut
      cases kq with
      | zero => exact absurd HA.out (by simp [laws_FnMoved.j1])
      | succ kj326 =>
       have H := HA.out
       clear HA
       simp only [laws_FnMoved.j1] at H
       have HC418 := jA H
       clear H
       go_upto_if 173 with (fail)
       repeat (go_quiet (fail); go_upto_if 173 with (fail))
       go_cut [] (fun wc => ∃ (kq : Nat), Aside0 (laws_FnMoved.j2 kq t630 t653 t633 t634 t637 t638 t645 t646 t649 t650 = some r) ∧ Aside0 (kq ≤ kj326) ∧ Aside0 (Kd.R k65 65 wc w.heap.size (fun _ => True) (.slice Ao22 t630.length co22) t630) ∧ Aside0 (Kd.R (Kd.int .i64) 2 wc w.heap.size (fun k_ => some k_ ≠ ((.slice Ao21 t638.length co21) : Value).ownBlock ∧ some k_ ≠ ((.slice Ao30 t646.length co30) : Value).ownBlock ∧ some k_ ≠ ((.slice Ao34 t650.length co34) : Value).ownBlock ∧ some k_ ≠ ((.slice Ao46 t657.length co46) : Value).ownBlock ∧ some k_ ≠ ((.slice Ao52 t661.length co52) : Value).ownBlock ∧ some k_ ≠ ((.slice Ao62 t671.length co62) : Value).ownBlock ∧ some k_ ≠ ((.slice Ao77 t684.length co77) : Value).ownBlock ∧ some k_ ≠ ((.slice Ao90 t691.length co90) : Value).ownBlock ∧ some k_ ≠ ((.slice Ao104 t697.length co104) : Value).ownBlock) (.slice Ao19 t634.length co19) t634) ∧ Aside0 (Kd.R (Kd.int .i64) 2 wc w.heap.size (fun k_ => some k_ ≠ ((.slice Ao19 t634.length co19) : Value).ownBlock ∧ some k_ ≠ ((.slice Ao30 t646.length co30) : Value).ownBlock ∧ some k_ ≠ ((.slice Ao34 t650.length co34) : Value).ownBlock ∧ some k_ ≠ ((.slice Ao46 t657.length co46) : Value).ownBlock ∧ some k_ ≠ ((.slice Ao52 t661.length co52) : Value).ownBlock ∧ some k_ ≠ ((.slice Ao62 t671.length co62) : Value).ownBlock ∧ some k_ ≠ ((.slice Ao77 t684.length co77) : Value).ownBlock ∧ some k_ ≠ ((.slice Ao90 t691.length co90) : Value).ownBlock ∧ some k_ ≠ ((.slice Ao104 t697.length co104) : Value).ownBlock) (.slice Ao21 t638.length co21) t638) ∧ Aside0 (Kd.R (Kd.int .i64) 2 wc w.heap.size (fun k_ => some k_ ≠ ((.slice Ao19 t634.length co19) : Value).ownBlock ∧ some k_ ≠ ((.slice Ao21 t638.length co21) : Value).ownBlock ∧ some k_ ≠ ((.slice Ao34 t650.length co34) : Value).ownBlock ∧ some k_ ≠ ((.slice Ao46 t657.length co46) : Value).ownBlock ∧ some k_ ≠ ((.slice Ao52 t661.length co52) : Value).ownBlock ∧ some k_ ≠ ((.slice Ao62 t671.length co62) : Value).ownBlock ∧ some k_ ≠ ((.slice Ao77 t684.length co77) : Value).ownBlock ∧ some k_ ≠ ((.slice Ao90 t691.length co90) : Value).ownBlock ∧ some k_ ≠ ((.slice Ao104 t697.length co104) : Value).ownBlock) (.slice Ao30 t646.length co30) t646) ∧ Aside0 (Kd.R (Kd.int .i64) 2 wc w.heap.size (fun k_ => some k_ ≠ ((.slice Ao19 t634.length co19) : Value).ownBlock ∧ some k_ ≠ ((.slice Ao21 t638.length co21) : Value).ownBlock ∧ some k_ ≠ ((.slice Ao30 t646.length co30) : Value).ownBlock ∧ some k_ ≠ ((.slice Ao46 t657.length co46) : Value).ownBlock ∧ some k_ ≠ ((.slice Ao52 t661.length co52) : Value).ownBlock ∧ some k_ ≠ ((.slice Ao62 t671.length co62) : Value).ownBlock ∧ some k_ ≠ ((.slice Ao77 t684.length co77) : Value).ownBlock ∧ some k_ ≠ ((.slice Ao90 t691.length co90) : Value).ownBlock ∧ some k_ ≠ ((.slice Ao104 t697.length co104) : Value).ownBlock) (.slice Ao34 t650.length co34) t650) ∧ Aside0 (Kd.R (Kd.int .i64) 2 wc w.heap.size (fun k_ => some k_ ≠ ((.slice Ao19 t634.length co19) : Value).ownBlock ∧ some k_ ≠ ((.slice Ao21 t638.length co21) : Value).ownBlock ∧ some k_ ≠ ((.slice Ao30 t646.length co30) : Value).ownBlock ∧ some k_ ≠ ((.slice Ao34 t650.length co34) : Value).ownBlock ∧ some k_ ≠ ((.slice Ao52 t661.length co52) : Value).ownBlock ∧ some k_ ≠ ((.slice Ao62 t671.length co62) : Value).ownBlock ∧ some k_ ≠ ((.slice Ao77 t684.length co77) : Value).ownBlock ∧ some k_ ≠ ((.slice Ao90 t691.length co90) : Value).ownBlock ∧ some k_ ≠ ((.slice Ao104 t697.length co104) : Value).ownBlock) (.slice Ao46 t657.length co46) t657) ∧ Aside0 (Kd.R (Kd.int .i64) 2 wc w.heap.size (fun k_ => some k_ ≠ ((.slice Ao19 t634.length co19) : Value).ownBlock ∧ some k_ ≠ ((.slice Ao21 t638.length co21) : Value).ownBlock ∧ some k_ ≠ ((.slice Ao30 t646.length co30) : Value).ownBlock ∧ some k_ ≠ ((.slice Ao34 t650.length co34) : Value).ownBlock ∧ some k_ ≠ ((.slice Ao46 t657.length co46) : Value).ownBlock ∧ some k_ ≠ ((.slice Ao62 t671.length co62) : Value).ownBlock ∧ some k_ ≠ ((.slice Ao77 t684.length co77) : Value).ownBlock ∧ some k_ ≠ ((.slice Ao90 t691.length co90) : Value).ownBlock ∧ some k_ ≠ ((.slice Ao104 t697.length co104) : Value).ownBlock) (.slice Ao52 t661.length co52) t661) ∧ Aside0 (Kd.R (Kd.int .i64) 2 wc w.heap.size (fun k_ => some k_ ≠ ((.slice Ao19 t634.length co19) : Value).ownBlock ∧ some k_ ≠ ((.slice Ao21 t638.length co21) : Value).ownBlock ∧ some k_ ≠ ((.slice Ao30 t646.length co30) : Value).ownBlock ∧ some k_ ≠ ((.slice Ao34 t650.length co34) : Value).ownBlock ∧ some k_ ≠ ((.slice Ao46 t657.length co46) : Value).ownBlock ∧ some k_ ≠ ((.slice Ao52 t661.length co52) : Value).ownBlock ∧ some k_ ≠ ((.slice Ao77 t684.length co77) : Value).ownBlock ∧ some k_ ≠ ((.slice Ao90 t691.length co90) : Value).ownBlock ∧ some k_ ≠ ((.slice Ao104 t697.length co104) : Value).ownBlock) (.slice Ao62 t671.length co62) t671) ∧ Aside0 (Kd.R (Kd.int .i64) 2 wc w.heap.size (fun k_ => some k_ ≠ ((.slice Ao19 t634.length co19) : Value).ownBlock ∧ some k_ ≠ ((.slice Ao21 t638.length co21) : Value).ownBlock ∧ some k_ ≠ ((.slice Ao30 t646.length co30) : Value).ownBlock ∧ some k_ ≠ ((.slice Ao34 t650.length co34) : Value).ownBlock ∧ some k_ ≠ ((.slice Ao46 t657.length co46) : Value).ownBlock ∧ some k_ ≠ ((.slice Ao52 t661.length co52) : Value).ownBlock ∧ some k_ ≠ ((.slice Ao62 t671.length co62) : Value).ownBlock ∧ some k_ ≠ ((.slice Ao90 t691.length co90) : Value).ownBlock ∧ some k_ ≠ ((.slice Ao104 t697.length co104) : Value).ownBlock) (.slice Ao77 t684.length co77) t684) ∧ Aside0 (Kd.R (Kd.int .i64) 2 wc w.heap.size (fun k_ => some k_ ≠ ((.slice Ao19 t634.length co19) : Value).ownBlock ∧ some k_ ≠ ((.slice Ao21 t638.length co21) : Value).ownBlock ∧ some k_ ≠ ((.slice Ao30 t646.length co30) : Value).ownBlock ∧ some k_ ≠ ((.slice Ao34 t650.length co34) : Value).ownBlock ∧ some k_ ≠ ((.slice Ao46 t657.length co46) : Value).ownBlock ∧ some k_ ≠ ((.slice Ao52 t661.length co52) : Value).ownBlock ∧ some k_ ≠ ((.slice Ao62 t671.length co62) : Value).ownBlock ∧ some k_ ≠ ((.slice Ao77 t684.length co77) : Value).ownBlock ∧ some k_ ≠ ((.slice Ao104 t697.length co104) : Value).ownBlock) (.slice Ao90 t691.length co90) t691) ∧ Aside0 (Kd.R (Kd.int .i64) 2 wc w.heap.size (fun k_ => some k_ ≠ ((.slice Ao19 t634.length co19) : Value).ownBlock ∧ some k_ ≠ ((.slice Ao21 t638.length co21) : Value).ownBlock ∧ some k_ ≠ ((.slice Ao30 t646.length co30) : Value).ownBlock ∧ some k_ ≠ ((.slice Ao34 t650.length co34) : Value).ownBlock ∧ some k_ ≠ ((.slice Ao46 t657.length co46) : Value).ownBlock ∧ some k_ ≠ ((.slice Ao52 t661.length co52) : Value).ownBlock ∧ some k_ ≠ ((.slice Ao62 t671.length co62) : Value).ownBlock ∧ some k_ ≠ ((.slice Ao77 t684.length co77) : Value).ownBlock ∧ some k_ ≠ ((.slice Ao90 t691.length co90) : Value).ownBlock) (.slice Ao104 t697.length co104) t697) ∧ Aside0 (wc.heap[gb643]? = some (.cells #[.int .i64 t633, (.slice Ao19 t634.length co19)] 28 (0, 0))) ∧ Aside0 (wc.heap[gb644]? = some (.cells #[.int .i64 t637, (.slice Ao21 t638.length co21)] 28 (0, 0))) ∧ Aside0 (wc.heap[gb654]? = some (.cells #[.int .i64 t645, (.slice Ao30 t646.length co30)] 28 (0, 0))) ∧ Aside0 (wc.heap[gb655]? = some (.cells #[.int .i64 t649, (.slice Ao34 t650.length co34)] 28 (0, 0))) ∧ Aside0 (wc.heap[gb665]? = some (.cells #[.int .i64 t656, (.slice Ao46 t657.length co46)] 28 (0, 0))) ∧ Aside0 (wc.heap[gb666]? = some (.cells #[.int .i64 t660, (.slice Ao52 t661.length co52)] 28 (0, 0))) ∧ Aside0 (wc.heap[gb675]? = some (.cells #[.int .i64 t670, (.slice Ao62 t671.length co62)] 28 (0, 0))) ∧ Aside0 (wc.heap[gb689]? = some (.cells #[.int .i64 t683, (.slice Ao77 t684.length co77)] 28 (0, 0))) ∧ Aside0 (wc.heap[gb695]? = some (.cells #[.int .i64 t690, (.slice Ao90 t691.length co90)] 28 (0, 0))) ∧ Aside0 (wc.heap[gb701]? = some (.cells #[.int .i64 t696, (.slice Ao104 t697.length co104)] 28 (0, 0))) ∧ Aside0 (Below w.heap.size w wc))
       case first =>
        have H := HC418.out
        clear HC418
        by_cases c419 : t677 = 0
        ·as_aux_lemma =>
         rw [if_pos c419] at H
         have c419b0 : (t677 == 0) = true := beq_iff_eq.mpr c419
         have c419b1 : (t677 != 0) = false := bne_eq_false_iff_eq.mpr c419
         clear c419
         (first | rw [c419b0] | (simp only [i64_w, i32_w]; rw [c419b0]) | skip)
         replace H := jB.mp H
         obtain ⟨⟨t709, t710, t713⟩, A4200, H⟩ := H
         replace H : (if t713 = 0 then (if t676 < 1000 then ((impl_StorePieces.f kj326 t667 t670 t671 t674 (wrap64 (t676 + 1))).bind fun bt715 => (if bt715.2.2 = 5 then (laws_FnMoved.j2 kj326 t630 t653 t633 t634 t637 t638 t645 t646 t649 t650) else (none))) else (laws_FnMoved.j2 kj326 t630 t653 t633 t634 t637 t638 t645 t646 t649 t650)) else (none)) = some r := H
         have A420 := jA A4200
         clear A4200
         by_cases c421 : t713 = 0
         ·as_aux_lemma =>
          rw [if_pos c421] at H
          have c421b0 : (t713 == 0) = true := beq_iff_eq.mpr c421
          have c421b1 : (t713 != 0) = false := bne_eq_false_iff_eq.mpr c421
          clear c421
          by_cases c422 : t676 < 1000
          ·as_aux_lemma =>
           rw [if_pos c422] at H
           have c422b0 : decide (t676 < 1000) = true := jK c422
           clear c422
           replace H := jB.mp H
           obtain ⟨⟨t715, t716, t719⟩, A4230, H⟩ := H
           try dsimp only at H
           have A423 := jA A4230
           clear A4230
           by_cases c424 : t719 = 5
           ·as_aux_lemma =>
            rw [if_pos c424] at H
            have c424b0 : (t719 == 5) = true := beq_iff_eq.mpr c424
            have c424b1 : (t719 != 5) = false := bne_eq_false_iff_eq.mpr c424
            clear c424
            have H' := jA H
            clear H
            have hnb425 := NB675_643.out
            have hnc425 := NB643_675.out
            have hnb426 := NB675_644.out
            have hnc426 := NB644_675.out
            have hnb427 := NB675_654.out
            have hnc427 := NB654_675.out
            have hnb428 := NB675_655.out
            have hnc428 := NB655_675.out
            have hnb429 := NB675_665.out
            have hnc429 := NB665_675.out
            have hnb430 := NB675_666.out
            have hnc430 := NB666_675.out
            have hnb431 := NB675_689.out
            have hnc431 := NB689_675.out
            have hnb432 := NB675_695.out
            have hnc432 := NB695_675.out
            have hnb433 := NB675_701.out
            have hnc433 := NB701_675.out
            have hcz434 := zc2 BK675
            go_wp2_with (first | (go_at_call 39; (with_reducible refine (impl_StorePieces.calls kj326 _ _ t667 t670 _ _ t671 t674 t676 t709 t710 t713 _ ?side1 ?side2 ?side3 ?side4 A420.out).mono ?_); (case side1 => exact zv HO_14); (case side2 => exact (jO HO_14.out).2.1); (case side3 => exact zv HO_676001); (case side4 => exact (jO HO_676001.out).2.1); rintro e w435 ⟨v711, rfl, ho0, hb⟩; replace HO_3 := jA (jE (zo HO_3) hb); replace HO_14 := jA (jE (zo HO_14) hb); have HO712 := jA (jU (Kd.R_new' (Kd.R_new' (Kd.R_new' (Kd.R_new' (Kd.R_new' (Kd.R_new' (Kd.R_new' (Kd.R_new' (Kd.R_new' (Kd.R_new' ho0 (Kd.R_lt (zo HO_644001))) (Kd.R_lt (zo HO_645001))) (Kd.R_lt (zo HO_655001))) (Kd.R_lt (zo HO_656001))) (Kd.R_lt (zo HO_666001))) (Kd.R_lt (zo HO_667001))) (Kd.R_lt (zo HO_676001))) (Kd.R_lt (zo HO_690001))) (Kd.R_lt (zo HO_696001))) (Kd.R_lt (zo HO_702001))) (jW (zb10 HB GE643 GE644 GE654 GE655 GE665 GE666 GE675 GE689 GE695 GE701))); replace HO_644001 := jA (Kd.R_elder' (zo HO_644001) (Kd.R_base ho0) hb); replace HO_645001 := jA (Kd.R_elder' (zo HO_645001) (Kd.R_base ho0) hb); replace HO_655001 := jA (Kd.R_elder' (zo HO_655001) (Kd.R_base ho0) hb); replace HO_656001 := jA (Kd.R_elder' (zo HO_656001) (Kd.R_base ho0) hb); replace HO_666001 := jA (Kd.R_elder' (zo HO_666001) (Kd.R_base ho0) hb); replace HO_667001 := jA (Kd.R_elder' (zo HO_667001) (Kd.R_base ho0) hb); replace HO_676001 := jA (Kd.R_elder' (zo HO_676001) (Kd.R_base ho0) hb); replace HO_690001 := jA (Kd.R_elder' (zo HO_690001) (Kd.R_base ho0) hb); replace HO_696001 := jA (Kd.R_elder' (zo HO_696001) (Kd.R_base ho0) hb); replace HO_702001 := jA (Kd.R_elder' (zo HO_702001) (Kd.R_base ho0) hb); replace BK643 := zB BK643 hb; replace BK644 := zB BK644 hb; replace BK654 := zB BK654 hb; replace BK655 := zB BK655 hb; replace BK665 := zB BK665 hb; replace BK666 := zB BK666 hb; replace BK675 := zB BK675 hb; replace BK689 := zB BK689 hb; replace BK695 := zB BK695 hb; replace BK701 := zB BK701 hb; replace HB := zS10 HB GE643 GE644 GE654 GE655 GE665 GE666 GE675 GE689 GE695 GE701 hb; (try clear hb); (try clear hb2); (try clear hk); (try clear hi); (try clear ho0)) | ((with_reducible refine jJ (N := 33) rfl ?_); (try (refine gate_guard (by rfl) ?_; dsimp only)); refine zE 33 #[.int .i64 0, .slice none 0 0] 28 ?_; intro gb714 hg w436 hbox hb; replace HO_3 := jA (jE (zo HO_3) hb); replace HO_14 := jA (jE (zo HO_14) hb); replace HO_644001 := jA (jE (zo HO_644001) hb); replace HO_645001 := jA (jE (zo HO_645001) hb); replace HO_655001 := jA (jE (zo HO_655001) hb); replace HO_656001 := jA (jE (zo HO_656001) hb); replace HO_666001 := jA (jE (zo HO_666001) hb); replace HO_667001 := jA (jE (zo HO_667001) hb); replace HO_676001 := jA (jE (zo HO_676001) hb); replace HO_690001 := jA (jE (zo HO_690001) hb); replace HO_696001 := jA (jE (zo HO_696001) hb); replace HO_702001 := jA (jE (zo HO_702001) hb); replace HO712 := jA (jE (zo HO712) hb); have BK714 := jA (hbox); have GW714 := zg10 hg HB GE643 GE644 GE654 GE655 GE665 GE666 GE675 GE689 GE695 GE701; have GE714 := zg10 hg HB GE643 GE644 GE654 GE655 GE665 GE666 GE675 GE689 GE695 GE701; replace HB := zS10 HB GE643 GE644 GE654 GE655 GE665 GE666 GE675 GE689 GE695 GE701 hb; have NB643_714 := zn hg BK643; replace BK643 := zB BK643 hb; have NB714_643 := jA NB643_714.out.symm; have NB644_714 := zn hg BK644; replace BK644 := zB BK644 hb; have NB714_644 := jA NB644_714.out.symm; have NB654_714 := zn hg BK654; replace BK654 := zB BK654 hb; have NB714_654 := jA NB654_714.out.symm; have NB655_714 := zn hg BK655; replace BK655 := zB BK655 hb; have NB714_655 := jA NB655_714.out.symm; have NB665_714 := zn hg BK665; replace BK665 := zB BK665 hb; have NB714_665 := jA NB665_714.out.symm; have NB666_714 := zn hg BK666; replace BK666 := zB BK666 hb; have NB714_666 := jA NB666_714.out.symm; have NB675_714 := zn hg BK675; replace BK675 := zB BK675 hb; have NB714_675 := jA NB675_714.out.symm; have NB689_714 := zn hg BK689; replace BK689 := zB BK689 hb; have NB714_689 := jA NB689_714.out.symm; have NB695_714 := zn hg BK695; replace BK695 := zB BK695 hb; have NB714_695 := jA NB695_714.out.symm; have NB701_714 := zn hg BK701; replace BK701 := zB BK701 hb; have NB714_701 := jA NB701_714.out.symm; clear hb hbox hg; have hnb437 := NB714_643.out; have hnc437 := NB643_714.out; have hnb438 := NB714_644.out; have hnc438 := NB644_714.out; have hnb439 := NB714_654.out; have hnc439 := NB654_714.out; have hnb440 := NB714_655.out; have hnc440 := NB655_714.out; have hnb441 := NB714_665.out; have hnc441 := NB665_714.out; have hnb442 := NB714_666.out; have hnc442 := NB666_714.out; have hnb443 := NB714_675.out; have hnc443 := NB675_714.out; have hnb444 := NB714_689.out; have hnc444 := NB689_714.out; have hnb445 := NB714_695.out; have hnc445 := NB695_714.out; have hnb446 := NB714_701.out; have hnc446 := NB701_714.out; have hcz447 := zc2 BK714; obtain ⟨Ao448, co448, eo448⟩ := Kd.R_slice HO712.out; subst eo448; have hcz449 := zc2 BK675) | (go_at_call 39; (with_reducible refine (impl_StorePieces.calls kj326 _ _ t667 t670 _ _ t671 t674 (wrap64 (t676 + 1)) t715 t716 t719 _ ?side1 ?side2 ?side3 ?side4 A423.out).mono ?_); (case side1 => refine (jO (e := 65) (base := w.heap.size) (ok := fun k_ => some k_ ≠ (.slice Ao22 t630.length co22 : Value).ownBlock) (n := t667.length) (c := co63) ?_).2.2; exact (zU HO_14 BK714)); (case side2 => exact (jO HO_14.out).2.1); (case side3 => refine (jO (e := 2) (base := w.heap.size) (ok := fun k_ => ((some k_ ≠ (.slice Ao19 t634.length co19 : Value).ownBlock ∧ (some k_ ≠ (.slice Ao21 t638.length co21 : Value).ownBlock ∧ (some k_ ≠ (.slice Ao30 t646.length co30 : Value).ownBlock ∧ (some k_ ≠ (.slice Ao34 t650.length co34 : Value).ownBlock ∧ (some k_ ≠ (.slice Ao46 t657.length co46 : Value).ownBlock ∧ (some k_ ≠ (.slice Ao52 t661.length co52 : Value).ownBlock ∧ (some k_ ≠ (.slice Ao77 t684.length co77 : Value).ownBlock ∧ (some k_ ≠ (.slice Ao90 t691.length co90 : Value).ownBlock ∧ some k_ ≠ (.slice Ao104 t697.length co104 : Value).ownBlock)))))))) ∧ some k_ ≠ (.slice Ao448 t710.length co448 : Value).ownBlock)) (n := t671.length) (c := co62) ?_).2.2; exact (zU HO_676001 BK714)); (case side4 => exact (jO HO_676001.out).2.1); rintro e w450 ⟨v717, rfl, ho0, hb⟩; replace HO_3 := jA (jE (zU HO_3 BK714) hb); replace HO_14 := jA (jE (zU HO_14 BK714) hb); have HO718 := jA (jU (Kd.R_new' (Kd.R_new' (Kd.R_new' (Kd.R_new' (Kd.R_new' (Kd.R_new' (Kd.R_new' (Kd.R_new' (Kd.R_new' (Kd.R_new' (Kd.R_new' ho0 (Kd.R_lt (zU HO_644001 BK714))) (Kd.R_lt (zU HO_645001 BK714))) (Kd.R_lt (zU HO_655001 BK714))) (Kd.R_lt (zU HO_656001 BK714))) (Kd.R_lt (zU HO_666001 BK714))) (Kd.R_lt (zU HO_667001 BK714))) (Kd.R_lt (zU HO_676001 BK714))) (Kd.R_lt (zU HO_690001 BK714))) (Kd.R_lt (zU HO_696001 BK714))) (Kd.R_lt (zU HO_702001 BK714))) (Kd.R_lt (zU HO712 BK714))) (jW (zb11 HB GE643 GE644 GE654 GE655 GE665 GE666 GE675 GE689 GE695 GE701 GE714))); replace HO_644001 := jA (Kd.R_elder' (zU HO_644001 BK714) (Kd.R_base ho0) hb); replace HO_645001 := jA (Kd.R_elder' (zU HO_645001 BK714) (Kd.R_base ho0) hb); replace HO_655001 := jA (Kd.R_elder' (zU HO_655001 BK714) (Kd.R_base ho0) hb); replace HO_656001 := jA (Kd.R_elder' (zU HO_656001 BK714) (Kd.R_base ho0) hb); replace HO_666001 := jA (Kd.R_elder' (zU HO_666001 BK714) (Kd.R_base ho0) hb); replace HO_667001 := jA (Kd.R_elder' (zU HO_667001 BK714) (Kd.R_base ho0) hb); replace HO_676001 := jA (Kd.R_elder' (zU HO_676001 BK714) (Kd.R_base ho0) hb); replace HO_690001 := jA (Kd.R_elder' (zU HO_690001 BK714) (Kd.R_base ho0) hb); replace HO_696001 := jA (Kd.R_elder' (zU HO_696001 BK714) (Kd.R_base ho0) hb); replace HO_702001 := jA (Kd.R_elder' (zU HO_702001 BK714) (Kd.R_base ho0) hb); replace HO712 := jA (Kd.R_elder' (zU HO712 BK714) (Kd.R_base ho0) hb); replace BK643 := jA (jT (g := gb643) (o := .cells #[.int .i64 t633, .slice Ao19 t634.length co19] 28 (0, 0)) (zQ1 BK643 NB643_714) hb); replace BK644 := jA (jT (g := gb644) (o := .cells #[.int .i64 t637, .slice Ao21 t638.length co21] 28 (0, 0)) (zQ1 BK644 NB644_714) hb); replace BK654 := jA (jT (g := gb654) (o := .cells #[.int .i64 t645, .slice Ao30 t646.length co30] 28 (0, 0)) (zQ1 BK654 NB654_714) hb); replace BK655 := jA (jT (g := gb655) (o := .cells #[.int .i64 t649, .slice Ao34 t650.length co34] 28 (0, 0)) (zQ1 BK655 NB655_714) hb); replace BK665 := jA (jT (g := gb665) (o := .cells #[.int .i64 t656, .slice Ao46 t657.length co46] 28 (0, 0)) (zQ1 BK665 NB665_714) hb); replace BK666 := jA (jT (g := gb666) (o := .cells #[.int .i64 t660, .slice Ao52 t661.length co52] 28 (0, 0)) (zQ1 BK666 NB666_714) hb); replace BK675 := jA (jT (g := gb675) (o := .cells #[.int .i64 t670, .slice Ao62 t671.length co62] 28 (0, 0)) (zQ1 BK675 NB675_714) hb); replace BK689 := jA (jT (g := gb689) (o := .cells #[.int .i64 t683, .slice Ao77 t684.length co77] 28 (0, 0)) (zQ1 BK689 NB689_714) hb); replace BK695 := jA (jT (g := gb695) (o := .cells #[.int .i64 t690, .slice Ao90 t691.length co90] 28 (0, 0)) (zQ1 BK695 NB695_714) hb); replace BK701 := jA (jT (g := gb701) (o := .cells #[.int .i64 t696, .slice Ao104 t697.length co104] 28 (0, 0)) (zQ1 BK701 NB701_714) hb); replace BK714 := jA (jT (g := gb714) (o := .cells #[.int .i64 t709, .slice Ao448 t710.length co448] 28 (0, 0)) (zP0 BK714) hb); replace HB := zS11 HB GE643 GE644 GE654 GE655 GE665 GE666 GE675 GE689 GE695 GE701 GE714 hb; (try clear hb); (try clear hb2); (try clear hk); (try clear hi); (try clear ho0)) | ((with_reducible refine jJ (N := 35) rfl ?_); (try (refine gate_guard (by rfl) ?_; dsimp only)); refine zE 35 #[.int .i64 0, .slice none 0 0] 28 ?_; intro gb720 hg w451 hbox hb; replace HO_3 := jA (jE (zo HO_3) hb); replace HO_14 := jA (jE (zo HO_14) hb); replace HO_644001 := jA (jE (zo HO_644001) hb); replace HO_645001 := jA (jE (zo HO_645001) hb); replace HO_655001 := jA (jE (zo HO_655001) hb); replace HO_656001 := jA (jE (zo HO_656001) hb); replace HO_666001 := jA (jE (zo HO_666001) hb); replace HO_667001 := jA (jE (zo HO_667001) hb); replace HO_676001 := jA (jE (zo HO_676001) hb); replace HO_690001 := jA (jE (zo HO_690001) hb); replace HO_696001 := jA (jE (zo HO_696001) hb); replace HO_702001 := jA (jE (zo HO_702001) hb); replace HO712 := jA (jE (zo HO712) hb); replace HO718 := jA (jE (zo HO718) hb); have BK720 := jA (hbox); have GW720 := zg11 hg HB GE643 GE644 GE654 GE655 GE665 GE666 GE675 GE689 GE695 GE701 GE714; have GE720 := zg11 hg HB GE643 GE644 GE654 GE655 GE665 GE666 GE675 GE689 GE695 GE701 GE714; replace HB := zS11 HB GE643 GE644 GE654 GE655 GE665 GE666 GE675 GE689 GE695 GE701 GE714 hb; have NB643_720 := zn hg BK643; replace BK643 := zB BK643 hb; have NB720_643 := jA NB643_720.out.symm; have NB644_720 := zn hg BK644; replace BK644 := zB BK644 hb; have NB720_644 := jA NB644_720.out.symm; have NB654_720 := zn hg BK654; replace BK654 := zB BK654 hb; have NB720_654 := jA NB654_720.out.symm; have NB655_720 := zn hg BK655; replace BK655 := zB BK655 hb; have NB720_655 := jA NB655_720.out.symm; have NB665_720 := zn hg BK665; replace BK665 := zB BK665 hb; have NB720_665 := jA NB665_720.out.symm; have NB666_720 := zn hg BK666; replace BK666 := zB BK666 hb; have NB720_666 := jA NB666_720.out.symm; have NB675_720 := zn hg BK675; replace BK675 := zB BK675 hb; have NB720_675 := jA NB675_720.out.symm; have NB689_720 := zn hg BK689; replace BK689 := zB BK689 hb; have NB720_689 := jA NB689_720.out.symm; have NB695_720 := zn hg BK695; replace BK695 := zB BK695 hb; have NB720_695 := jA NB695_720.out.symm; have NB701_720 := zn hg BK701; replace BK701 := zB BK701 hb; have NB720_701 := jA NB701_720.out.symm; have NB714_720 := zn hg BK714; replace BK714 := zB BK714 hb; have NB720_714 := jA NB714_720.out.symm; clear hb hbox hg; have hnb452 := NB720_643.out; have hnc452 := NB643_720.out; have hnb453 := NB720_644.out; have hnc453 := NB644_720.out; have hnb454 := NB720_654.out; have hnc454 := NB654_720.out; have hnb455 := NB720_655.out; have hnc455 := NB655_720.out; have hnb456 := NB720_665.out; have hnc456 := NB665_720.out; have hnb457 := NB720_666.out; have hnc457 := NB666_720.out; have hnb458 := NB720_675.out; have hnc458 := NB675_720.out; have hnb459 := NB720_689.out; have hnc459 := NB689_720.out; have hnb460 := NB720_695.out; have hnc460 := NB695_720.out; have hnb461 := NB720_701.out; have hnc461 := NB701_720.out; have hnb462 := NB720_714.out; have hnc462 := NB714_720.out; have hcz463 := zc2 BK720; obtain ⟨Ao464, co464, eo464⟩ := Kd.R_slice HO718.out; subst eo464))
            go_meet
            case rel => exact ⟨_, H', ⟨by have := HJ12.out; have := HJ326.out; first | omega | exact Nat.le_refl _⟩, ⟨zT HO_3 BK720⟩, ⟨by (with_reducible repeat (first | apply jR | apply jQ | apply jP)); exact Kd.R_mono (Kd.R_far (p := ⟨gb720, 1, none⟩) (Kd.R_far (p := ⟨gb720, 0, none⟩) (Kd.R_types HO_644001.out BK720.out (by decide)) (fun _ hk => hk.2) (.int .i64 t715)) (fun _ hk => hk.2) (.slice Ao464 t716.length co464)) (fun _ hk => ⟨hk.1.1.1.1, ⟨hk.1.1.1.2.1, ⟨hk.1.1.1.2.2.1, ⟨hk.1.1.1.2.2.2.1, ⟨hk.1.1.1.2.2.2.2.1, ⟨hk.1.1.1.2.2.2.2.2.1, ⟨hk.1.1.1.2.2.2.2.2.2.1, ⟨hk.1.1.1.2.2.2.2.2.2.2.1, hk.1.1.1.2.2.2.2.2.2.2.2⟩⟩⟩⟩⟩⟩⟩⟩)⟩, ⟨by (with_reducible repeat (first | apply jR | apply jQ | apply jP)); exact Kd.R_mono (Kd.R_far (p := ⟨gb720, 1, none⟩) (Kd.R_far (p := ⟨gb720, 0, none⟩) (Kd.R_types HO_645001.out BK720.out (by decide)) (fun _ hk => hk.2) (.int .i64 t715)) (fun _ hk => hk.2) (.slice Ao464 t716.length co464)) (fun _ hk => ⟨hk.1.1.1.1, ⟨hk.1.1.1.2.1, ⟨hk.1.1.1.2.2.1, ⟨hk.1.1.1.2.2.2.1, ⟨hk.1.1.1.2.2.2.2.1, ⟨hk.1.1.1.2.2.2.2.2.1, ⟨hk.1.1.1.2.2.2.2.2.2.1, ⟨hk.1.1.1.2.2.2.2.2.2.2.1, hk.1.1.1.2.2.2.2.2.2.2.2⟩⟩⟩⟩⟩⟩⟩⟩)⟩, ⟨by (with_reducible repeat (first | apply jR | apply jQ | apply jP)); exact Kd.R_mono (Kd.R_far (p := ⟨gb720, 1, none⟩) (Kd.R_far (p := ⟨gb720, 0, none⟩) (Kd.R_types HO_655001.out BK720.out (by decide)) (fun _ hk => hk.2) (.int .i64 t715)) (fun _ hk => hk.2) (.slice Ao464 t716.length co464)) (fun _ hk => ⟨hk.1.1.1.1, ⟨hk.1.1.1.2.1, ⟨hk.1.1.1.2.2.1, ⟨hk.1.1.1.2.2.2.1, ⟨hk.1.1.1.2.2.2.2.1, ⟨hk.1.1.1.2.2.2.2.2.1, ⟨hk.1.1.1.2.2.2.2.2.2.1, ⟨hk.1.1.1.2.2.2.2.2.2.2.1, hk.1.1.1.2.2.2.2.2.2.2.2⟩⟩⟩⟩⟩⟩⟩⟩)⟩, ⟨by (with_reducible repeat (first | apply jR | apply jQ | apply jP)); exact Kd.R_mono (Kd.R_far (p := ⟨gb720, 1, none⟩) (Kd.R_far (p := ⟨gb720, 0, none⟩) (Kd.R_types HO_656001.out BK720.out (by decide)) (fun _ hk => hk.2) (.int .i64 t715)) (fun _ hk => hk.2) (.slice Ao464 t716.length co464)) (fun _ hk => ⟨hk.1.1.1.1, ⟨hk.1.1.1.2.1, ⟨hk.1.1.1.2.2.1, ⟨hk.1.1.1.2.2.2.1, ⟨hk.1.1.1.2.2.2.2.1, ⟨hk.1.1.1.2.2.2.2.2.1, ⟨hk.1.1.1.2.2.2.2.2.2.1, ⟨hk.1.1.1.2.2.2.2.2.2.2.1, hk.1.1.1.2.2.2.2.2.2.2.2⟩⟩⟩⟩⟩⟩⟩⟩)⟩, ⟨by (with_reducible repeat (first | apply jR | apply jQ | apply jP)); exact Kd.R_mono (Kd.R_far (p := ⟨gb720, 1, none⟩) (Kd.R_far (p := ⟨gb720, 0, none⟩) (Kd.R_types HO_666001.out BK720.out (by decide)) (fun _ hk => hk.2) (.int .i64 t715)) (fun _ hk => hk.2) (.slice Ao464 t716.length co464)) (fun _ hk => ⟨hk.1.1.1.1, ⟨hk.1.1.1.2.1, ⟨hk.1.1.1.2.2.1, ⟨hk.1.1.1.2.2.2.1, ⟨hk.1.1.1.2.2.2.2.1, ⟨hk.1.1.1.2.2.2.2.2.1, ⟨hk.1.1.1.2.2.2.2.2.2.1, ⟨hk.1.1.1.2.2.2.2.2.2.2.1, hk.1.1.1.2.2.2.2.2.2.2.2⟩⟩⟩⟩⟩⟩⟩⟩)⟩, ⟨by (with_reducible repeat (first | apply jR | apply jQ | apply jP)); exact Kd.R_mono (Kd.R_far (p := ⟨gb720, 1, none⟩) (Kd.R_far (p := ⟨gb720, 0, none⟩) (Kd.R_types HO_667001.out BK720.out (by decide)) (fun _ hk => hk.2) (.int .i64 t715)) (fun _ hk => hk.2) (.slice Ao464 t716.length co464)) (fun _ hk => ⟨hk.1.1.1.1, ⟨hk.1.1.1.2.1, ⟨hk.1.1.1.2.2.1, ⟨hk.1.1.1.2.2.2.1, ⟨hk.1.1.1.2.2.2.2.1, ⟨hk.1.1.1.2.2.2.2.2.1, ⟨hk.1.1.1.2.2.2.2.2.2.1, ⟨hk.1.1.1.2.2.2.2.2.2.2.1, hk.1.1.1.2.2.2.2.2.2.2.2⟩⟩⟩⟩⟩⟩⟩⟩)⟩, ⟨by (with_reducible repeat (first | apply jR | apply jQ | apply jP)); exact Kd.R_mono (Kd.R_far (p := ⟨gb720, 1, none⟩) (Kd.R_far (p := ⟨gb720, 0, none⟩) (Kd.R_types HO_676001.out BK720.out (by decide)) (fun _ hk => hk.2) (.int .i64 t715)) (fun _ hk => hk.2) (.slice Ao464 t716.length co464)) (fun _ hk => ⟨hk.1.1.1.1, ⟨hk.1.1.1.2.1, ⟨hk.1.1.1.2.2.1, ⟨hk.1.1.1.2.2.2.1, ⟨hk.1.1.1.2.2.2.2.1, ⟨hk.1.1.1.2.2.2.2.2.1, ⟨hk.1.1.1.2.2.2.2.2.2.1, ⟨hk.1.1.1.2.2.2.2.2.2.2.1, hk.1.1.1.2.2.2.2.2.2.2.2⟩⟩⟩⟩⟩⟩⟩⟩)⟩, ⟨by (with_reducible repeat (first | apply jR | apply jQ | apply jP)); exact Kd.R_mono (Kd.R_far (p := ⟨gb720, 1, none⟩) (Kd.R_far (p := ⟨gb720, 0, none⟩) (Kd.R_types HO_690001.out BK720.out (by decide)) (fun _ hk => hk.2) (.int .i64 t715)) (fun _ hk => hk.2) (.slice Ao464 t716.length co464)) (fun _ hk => ⟨hk.1.1.1.1, ⟨hk.1.1.1.2.1, ⟨hk.1.1.1.2.2.1, ⟨hk.1.1.1.2.2.2.1, ⟨hk.1.1.1.2.2.2.2.1, ⟨hk.1.1.1.2.2.2.2.2.1, ⟨hk.1.1.1.2.2.2.2.2.2.1, ⟨hk.1.1.1.2.2.2.2.2.2.2.1, hk.1.1.1.2.2.2.2.2.2.2.2⟩⟩⟩⟩⟩⟩⟩⟩)⟩, ⟨by (with_reducible repeat (first | apply jR | apply jQ | apply jP)); exact Kd.R_mono (Kd.R_far (p := ⟨gb720, 1, none⟩) (Kd.R_far (p := ⟨gb720, 0, none⟩) (Kd.R_types HO_696001.out BK720.out (by decide)) (fun _ hk => hk.2) (.int .i64 t715)) (fun _ hk => hk.2) (.slice Ao464 t716.length co464)) (fun _ hk => ⟨hk.1.1.1.1, ⟨hk.1.1.1.2.1, ⟨hk.1.1.1.2.2.1, ⟨hk.1.1.1.2.2.2.1, ⟨hk.1.1.1.2.2.2.2.1, ⟨hk.1.1.1.2.2.2.2.2.1, ⟨hk.1.1.1.2.2.2.2.2.2.1, ⟨hk.1.1.1.2.2.2.2.2.2.2.1, hk.1.1.1.2.2.2.2.2.2.2.2⟩⟩⟩⟩⟩⟩⟩⟩)⟩, ⟨by (with_reducible repeat (first | apply jR | apply jQ | apply jP)); exact Kd.R_mono (Kd.R_far (p := ⟨gb720, 1, none⟩) (Kd.R_far (p := ⟨gb720, 0, none⟩) (Kd.R_types HO_702001.out BK720.out (by decide)) (fun _ hk => hk.2) (.int .i64 t715)) (fun _ hk => hk.2) (.slice Ao464 t716.length co464)) (fun _ hk => ⟨hk.1.1.1.1, ⟨hk.1.1.1.2.1, ⟨hk.1.1.1.2.2.1, ⟨hk.1.1.1.2.2.2.1, ⟨hk.1.1.1.2.2.2.2.1, ⟨hk.1.1.1.2.2.2.2.2.1, ⟨hk.1.1.1.2.2.2.2.2.2.1, ⟨hk.1.1.1.2.2.2.2.2.2.2.1, hk.1.1.1.2.2.2.2.2.2.2.2⟩⟩⟩⟩⟩⟩⟩⟩)⟩, ⟨zQ1 BK643 NB643_720⟩, ⟨zQ1 BK644 NB644_720⟩, ⟨zQ1 BK654 NB654_720⟩, ⟨zQ1 BK655 NB655_720⟩, ⟨zQ1 BK665 NB665_720⟩, ⟨zQ1 BK666 NB666_720⟩, ⟨zQ1 BK675 NB675_720⟩, ⟨zQ1 BK689 NB689_720⟩, ⟨zQ1 BK695 NB695_720⟩, ⟨zQ1 BK701 NB701_720⟩, ⟨zb12 HB GE643 GE644 GE654 GE655 GE665 GE666 GE675 GE689 GE695 GE701 GE714 GE720⟩⟩
           ·rw [if_neg c424] at H
            exact absurd H (by simp)
          ·as_aux_lemma =>
           rw [if_neg c422] at H
           have c422b0 : decide (t676 < 1000) = false := jV c422
           clear c422
           have H' := jA H
           clear H
           have hnb505 := NB675_643.out
           have hnc505 := NB643_675.out
           have hnb506 := NB675_644.out
           have hnc506 := NB644_675.out
           have hnb507 := NB675_654.out
           have hnc507 := NB654_675.out
           have hnb508 := NB675_655.out
           have hnc508 := NB655_675.out
           have hnb509 := NB675_665.out
           have hnc509 := NB665_675.out
           have hnb510 := NB675_666.out
           have hnc510 := NB666_675.out
           have hnb511 := NB675_689.out
           have hnc511 := NB689_675.out
           have hnb512 := NB675_695.out
           have hnc512 := NB695_675.out
           have hnb513 := NB675_701.out
           have hnc513 := NB701_675.out
           have hcz514 := zc2 BK675
           go_wp2_with (first | (go_at_call 39; (with_reducible refine (impl_StorePieces.calls kj326 _ _ t667 t670 _ _ t671 t674 t676 t709 t710 t713 _ ?side1 ?side2 ?side3 ?side4 A420.out).mono ?_); (case side1 => exact zv HO_14); (case side2 => exact (jO HO_14.out).2.1); (case side3 => exact zv HO_676001); (case side4 => exact (jO HO_676001.out).2.1); rintro e w515 ⟨v711, rfl, ho0, hb⟩; replace HO_3 := jA (jE (zo HO_3) hb); replace HO_14 := jA (jE (zo HO_14) hb); have HO712 := jA (jU (Kd.R_new' (Kd.R_new' (Kd.R_new' (Kd.R_new' (Kd.R_new' (Kd.R_new' (Kd.R_new' (Kd.R_new' (Kd.R_new' (Kd.R_new' ho0 (Kd.R_lt (zo HO_644001))) (Kd.R_lt (zo HO_645001))) (Kd.R_lt (zo HO_655001))) (Kd.R_lt (zo HO_656001))) (Kd.R_lt (zo HO_666001))) (Kd.R_lt (zo HO_667001))) (Kd.R_lt (zo HO_676001))) (Kd.R_lt (zo HO_690001))) (Kd.R_lt (zo HO_696001))) (Kd.R_lt (zo HO_702001))) (jW (zb10 HB GE643 GE644 GE654 GE655 GE665 GE666 GE675 GE689 GE695 GE701))); replace HO_644001 := jA (Kd.R_elder' (zo HO_644001) (Kd.R_base ho0) hb); replace HO_645001 := jA (Kd.R_elder' (zo HO_645001) (Kd.R_base ho0) hb); replace HO_655001 := jA (Kd.R_elder' (zo HO_655001) (Kd.R_base ho0) hb); replace HO_656001 := jA (Kd.R_elder' (zo HO_656001) (Kd.R_base ho0) hb); replace HO_666001 := jA (Kd.R_elder' (zo HO_666001) (Kd.R_base ho0) hb); replace HO_667001 := jA (Kd.R_elder' (zo HO_667001) (Kd.R_base ho0) hb); replace HO_676001 := jA (Kd.R_elder' (zo HO_676001) (Kd.R_base ho0) hb); replace HO_690001 := jA (Kd.R_elder' (zo HO_690001) (Kd.R_base ho0) hb); replace HO_696001 := jA (Kd.R_elder' (zo HO_696001) (Kd.R_base ho0) hb); replace HO_702001 := jA (Kd.R_elder' (zo HO_702001) (Kd.R_base ho0) hb); replace BK643 := zB BK643 hb; replace BK644 := zB BK644 hb; replace BK654 := zB BK654 hb; replace BK655 := zB BK655 hb; replace BK665 := zB BK665 hb; replace BK666 := zB BK666 hb; replace BK675 := zB BK675 hb; replace BK689 := zB BK689 hb; replace BK695 := zB BK695 hb; replace BK701 := zB BK701 hb; replace HB := zS10 HB GE643 GE644 GE654 GE655 GE665 GE666 GE675 GE689 GE695 GE701 hb; (try clear hb); (try clear hb2); (try clear hk); (try clear hi); (try clear ho0)) | ((with_reducible refine jJ (N := 33) rfl ?_); (try (refine gate_guard (by rfl) ?_; dsimp only)); refine zE 33 #[.int .i64 0, .slice none 0 0] 28 ?_; intro gb714 hg w516 hbox hb; replace HO_3 := jA (jE (zo HO_3) hb); replace HO_14 := jA (jE (zo HO_14) hb); replace HO_644001 := jA (jE (zo HO_644001) hb); replace HO_645001 := jA (jE (zo HO_645001) hb); replace HO_655001 := jA (jE (zo HO_655001) hb); replace HO_656001 := jA (jE (zo HO_656001) hb); replace HO_666001 := jA (jE (zo HO_666001) hb); replace HO_667001 := jA (jE (zo HO_667001) hb); replace HO_676001 := jA (jE (zo HO_676001) hb); replace HO_690001 := jA (jE (zo HO_690001) hb); replace HO_696001 := jA (jE (zo HO_696001) hb); replace HO_702001 := jA (jE (zo HO_702001) hb); replace HO712 := jA (jE (zo HO712) hb); have BK714 := jA (hbox); have GW714 := zg10 hg HB GE643 GE644 GE654 GE655 GE665 GE666 GE675 GE689 GE695 GE701; have GE714 := zg10 hg HB GE643 GE644 GE654 GE655 GE665 GE666 GE675 GE689 GE695 GE701; replace HB := zS10 HB GE643 GE644 GE654 GE655 GE665 GE666 GE675 GE689 GE695 GE701 hb; have NB643_714 := zn hg BK643; replace BK643 := zB BK643 hb; have NB714_643 := jA NB643_714.out.symm; have NB644_714 := zn hg BK644; replace BK644 := zB BK644 hb; have NB714_644 := jA NB644_714.out.symm; have NB654_714 := zn hg BK654; replace BK654 := zB BK654 hb; have NB714_654 := jA NB654_714.out.symm; have NB655_714 := zn hg BK655; replace BK655 := zB BK655 hb; have NB714_655 := jA NB655_714.out.symm; have NB665_714 := zn hg BK665; replace BK665 := zB BK665 hb; have NB714_665 := jA NB665_714.out.symm; have NB666_714 := zn hg BK666; replace BK666 := zB BK666 hb; have NB714_666 := jA NB666_714.out.symm; have NB675_714 := zn hg BK675; replace BK675 := zB BK675 hb; have NB714_675 := jA NB675_714.out.symm; have NB689_714 := zn hg BK689; replace BK689 := zB BK689 hb; have NB714_689 := jA NB689_714.out.symm; have NB695_714 := zn hg BK695; replace BK695 := zB BK695 hb; have NB714_695 := jA NB695_714.out.symm; have NB701_714 := zn hg BK701; replace BK701 := zB BK701 hb; have NB714_701 := jA NB701_714.out.symm; clear hb hbox hg; have hnb517 := NB714_643.out; have hnc517 := NB643_714.out; have hnb518 := NB714_644.out; have hnc518 := NB644_714.out; have hnb519 := NB714_654.out; have hnc519 := NB654_714.out; have hnb520 := NB714_655.out; have hnc520 := NB655_714.out; have hnb521 := NB714_665.out; have hnc521 := NB665_714.out; have hnb522 := NB714_666.out; have hnc522 := NB666_714.out; have hnb523 := NB714_675.out; have hnc523 := NB675_714.out; have hnb524 := NB714_689.out; have hnc524 := NB689_714.out; have hnb525 := NB714_695.out; have hnc525 := NB695_714.out; have hnb526 := NB714_701.out; have hnc526 := NB701_714.out; have hcz527 := zc2 BK714; obtain ⟨Ao528, co528, eo528⟩ := Kd.R_slice HO712.out; subst eo528))
           go_meet
           case rel => exact ⟨_, H', ⟨by have := HJ12.out; have := HJ326.out; first | omega | exact Nat.le_refl _⟩, ⟨zT HO_3 BK714⟩, ⟨by (with_reducible repeat (first | apply jR | apply jQ | apply jP)); exact Kd.R_mono (Kd.R_far (p := ⟨gb714, 1, none⟩) (Kd.R_far (p := ⟨gb714, 0, none⟩) (Kd.R_types HO_644001.out BK714.out (by decide)) (fun _ hk => hk.2) (.int .i64 t709)) (fun _ hk => hk.2) (.slice Ao528 t710.length co528)) (fun _ hk => ⟨hk.1.1.1, ⟨hk.1.1.2.1, ⟨hk.1.1.2.2.1, ⟨hk.1.1.2.2.2.1, ⟨hk.1.1.2.2.2.2.1, ⟨hk.1.1.2.2.2.2.2.1, ⟨hk.1.1.2.2.2.2.2.2.1, ⟨hk.1.1.2.2.2.2.2.2.2.1, hk.1.1.2.2.2.2.2.2.2.2⟩⟩⟩⟩⟩⟩⟩⟩)⟩, ⟨by (with_reducible repeat (first | apply jR | apply jQ | apply jP)); exact Kd.R_mono (Kd.R_far (p := ⟨gb714, 1, none⟩) (Kd.R_far (p := ⟨gb714, 0, none⟩) (Kd.R_types HO_645001.out BK714.out (by decide)) (fun _ hk => hk.2) (.int .i64 t709)) (fun _ hk => hk.2) (.slice Ao528 t710.length co528)) (fun _ hk => ⟨hk.1.1.1, ⟨hk.1.1.2.1, ⟨hk.1.1.2.2.1, ⟨hk.1.1.2.2.2.1, ⟨hk.1.1.2.2.2.2.1, ⟨hk.1.1.2.2.2.2.2.1, ⟨hk.1.1.2.2.2.2.2.2.1, ⟨hk.1.1.2.2.2.2.2.2.2.1, hk.1.1.2.2.2.2.2.2.2.2⟩⟩⟩⟩⟩⟩⟩⟩)⟩, ⟨by (with_reducible repeat (first | apply jR | apply jQ | apply jP)); exact Kd.R_mono (Kd.R_far (p := ⟨gb714, 1, none⟩) (Kd.R_far (p := ⟨gb714, 0, none⟩) (Kd.R_types HO_655001.out BK714.out (by decide)) (fun _ hk => hk.2) (.int .i64 t709)) (fun _ hk => hk.2) (.slice Ao528 t710.length co528)) (fun _ hk => ⟨hk.1.1.1, ⟨hk.1.1.2.1, ⟨hk.1.1.2.2.1, ⟨hk.1.1.2.2.2.1, ⟨hk.1.1.2.2.2.2.1, ⟨hk.1.1.2.2.2.2.2.1, ⟨hk.1.1.2.2.2.2.2.2.1, ⟨hk.1.1.2.2.2.2.2.2.2.1, hk.1.1.2.2.2.2.2.2.2.2⟩⟩⟩⟩⟩⟩⟩⟩)⟩, ⟨by (with_reducible repeat (first | apply jR | apply jQ | apply jP)); exact Kd.R_mono (Kd.R_far (p := ⟨gb714, 1, none⟩) (Kd.R_far (p := ⟨gb714, 0, none⟩) (Kd.R_types HO_656001.out BK714.out (by decide)) (fun _ hk => hk.2) (.int .i64 t709)) (fun _ hk => hk.2) (.slice Ao528 t710.length co528)) (fun _ hk => ⟨hk.1.1.1, ⟨hk.1.1.2.1, ⟨hk.1.1.2.2.1, ⟨hk.1.1.2.2.2.1, ⟨hk.1.1.2.2.2.2.1, ⟨hk.1.1.2.2.2.2.2.1, ⟨hk.1.1.2.2.2.2.2.2.1, ⟨hk.1.1.2.2.2.2.2.2.2.1, hk.1.1.2.2.2.2.2.2.2.2⟩⟩⟩⟩⟩⟩⟩⟩)⟩, ⟨by (with_reducible repeat (first | apply jR | apply jQ | apply jP)); exact Kd.R_mono (Kd.R_far (p := ⟨gb714, 1, none⟩) (Kd.R_far (p := ⟨gb714, 0, none⟩) (Kd.R_types HO_666001.out BK714.out (by decide)) (fun _ hk => hk.2) (.int .i64 t709)) (fun _ hk => hk.2) (.slice Ao528 t710.length co528)) (fun _ hk => ⟨hk.1.1.1, ⟨hk.1.1.2.1, ⟨hk.1.1.2.2.1, ⟨hk.1.1.2.2.2.1, ⟨hk.1.1.2.2.2.2.1, ⟨hk.1.1.2.2.2.2.2.1, ⟨hk.1.1.2.2.2.2.2.2.1, ⟨hk.1.1.2.2.2.2.2.2.2.1, hk.1.1.2.2.2.2.2.2.2.2⟩⟩⟩⟩⟩⟩⟩⟩)⟩, ⟨by (with_reducible repeat (first | apply jR | apply jQ | apply jP)); exact Kd.R_mono (Kd.R_far (p := ⟨gb714, 1, none⟩) (Kd.R_far (p := ⟨gb714, 0, none⟩) (Kd.R_types HO_667001.out BK714.out (by decide)) (fun _ hk => hk.2) (.int .i64 t709)) (fun _ hk => hk.2) (.slice Ao528 t710.length co528)) (fun _ hk => ⟨hk.1.1.1, ⟨hk.1.1.2.1, ⟨hk.1.1.2.2.1, ⟨hk.1.1.2.2.2.1, ⟨hk.1.1.2.2.2.2.1, ⟨hk.1.1.2.2.2.2.2.1, ⟨hk.1.1.2.2.2.2.2.2.1, ⟨hk.1.1.2.2.2.2.2.2.2.1, hk.1.1.2.2.2.2.2.2.2.2⟩⟩⟩⟩⟩⟩⟩⟩)⟩, ⟨by (with_reducible repeat (first | apply jR | apply jQ | apply jP)); exact Kd.R_mono (Kd.R_far (p := ⟨gb714, 1, none⟩) (Kd.R_far (p := ⟨gb714, 0, none⟩) (Kd.R_types HO_676001.out BK714.out (by decide)) (fun _ hk => hk.2) (.int .i64 t709)) (fun _ hk => hk.2) (.slice Ao528 t710.length co528)) (fun _ hk => ⟨hk.1.1.1, ⟨hk.1.1.2.1, ⟨hk.1.1.2.2.1, ⟨hk.1.1.2.2.2.1, ⟨hk.1.1.2.2.2.2.1, ⟨hk.1.1.2.2.2.2.2.1, ⟨hk.1.1.2.2.2.2.2.2.1, ⟨hk.1.1.2.2.2.2.2.2.2.1, hk.1.1.2.2.2.2.2.2.2.2⟩⟩⟩⟩⟩⟩⟩⟩)⟩, ⟨by (with_reducible repeat (first | apply jR | apply jQ | apply jP)); exact Kd.R_mono (Kd.R_far (p := ⟨gb714, 1, none⟩) (Kd.R_far (p := ⟨gb714, 0, none⟩) (Kd.R_types HO_690001.out BK714.out (by decide)) (fun _ hk => hk.2) (.int .i64 t709)) (fun _ hk => hk.2) (.slice Ao528 t710.length co528)) (fun _ hk => ⟨hk.1.1.1, ⟨hk.1.1.2.1, ⟨hk.1.1.2.2.1, ⟨hk.1.1.2.2.2.1, ⟨hk.1.1.2.2.2.2.1, ⟨hk.1.1.2.2.2.2.2.1, ⟨hk.1.1.2.2.2.2.2.2.1, ⟨hk.1.1.2.2.2.2.2.2.2.1, hk.1.1.2.2.2.2.2.2.2.2⟩⟩⟩⟩⟩⟩⟩⟩)⟩, ⟨by (with_reducible repeat (first | apply jR | apply jQ | apply jP)); exact Kd.R_mono (Kd.R_far (p := ⟨gb714, 1, none⟩) (Kd.R_far (p := ⟨gb714, 0, none⟩) (Kd.R_types HO_696001.out BK714.out (by decide)) (fun _ hk => hk.2) (.int .i64 t709)) (fun _ hk => hk.2) (.slice Ao528 t710.length co528)) (fun _ hk => ⟨hk.1.1.1, ⟨hk.1.1.2.1, ⟨hk.1.1.2.2.1, ⟨hk.1.1.2.2.2.1, ⟨hk.1.1.2.2.2.2.1, ⟨hk.1.1.2.2.2.2.2.1, ⟨hk.1.1.2.2.2.2.2.2.1, ⟨hk.1.1.2.2.2.2.2.2.2.1, hk.1.1.2.2.2.2.2.2.2.2⟩⟩⟩⟩⟩⟩⟩⟩)⟩, ⟨by (with_reducible repeat (first | apply jR | apply jQ | apply jP)); exact Kd.R_mono (Kd.R_far (p := ⟨gb714, 1, none⟩) (Kd.R_far (p := ⟨gb714, 0, none⟩) (Kd.R_types HO_702001.out BK714.out (by decide)) (fun _ hk => hk.2) (.int .i64 t709)) (fun _ hk => hk.2) (.slice Ao528 t710.length co528)) (fun _ hk => ⟨hk.1.1.1, ⟨hk.1.1.2.1, ⟨hk.1.1.2.2.1, ⟨hk.1.1.2.2.2.1, ⟨hk.1.1.2.2.2.2.1, ⟨hk.1.1.2.2.2.2.2.1, ⟨hk.1.1.2.2.2.2.2.2.1, ⟨hk.1.1.2.2.2.2.2.2.2.1, hk.1.1.2.2.2.2.2.2.2.2⟩⟩⟩⟩⟩⟩⟩⟩)⟩, ⟨zQ1 BK643 NB643_714⟩, ⟨zQ1 BK644 NB644_714⟩, ⟨zQ1 BK654 NB654_714⟩, ⟨zQ1 BK655 NB655_714⟩, ⟨zQ1 BK665 NB665_714⟩, ⟨zQ1 BK666 NB666_714⟩, ⟨zQ1 BK675 NB675_714⟩, ⟨zQ1 BK689 NB689_714⟩, ⟨zQ1 BK695 NB695_714⟩, ⟨zQ1 BK701 NB701_714⟩, ⟨zb11 HB GE643 GE644 GE654 GE655 GE665 GE666 GE675 GE689 GE695 GE701 GE714⟩⟩
         ·rw [if_neg c421] at H
          exact absurd H (by simp)
        ·rw [if_neg c419] at H
         have c419b0 : (t677 == 0) = false := beq_eq_false_iff_ne.mpr c419
         have c419b1 : (t677 != 0) = true := bne_iff_ne.mpr c419
         (first | rw [c419b0] | (simp only [i64_w, i32_w]; rw [c419b0]) | skip)
         have H' := jA H
         clear H
         go_wp2
         repeat (go_quiet (fail); try go_wp2)
         go_meet
         case rel => exact ⟨_, H', ⟨by have := HJ12.out; have := HJ326.out; first | omega | exact Nat.le_refl _⟩, ⟨by (with_reducible repeat (first | apply jR | apply jQ | apply jP)); exact Kd.R_mono HO_3.out (fun _ hk => trivial)⟩, ⟨zo HO_644001⟩, ⟨zo HO_645001⟩, ⟨zo HO_655001⟩, ⟨zo HO_656001⟩, ⟨zo HO_666001⟩, ⟨zo HO_667001⟩, ⟨zo HO_676001⟩, ⟨zo HO_690001⟩, ⟨zo HO_696001⟩, ⟨zo HO_702001⟩, ⟨zk BK643⟩, ⟨zk BK644⟩, ⟨zk BK654⟩, ⟨zk BK655⟩, ⟨zk BK665⟩, ⟨zk BK666⟩, ⟨zk BK675⟩, ⟨zk BK689⟩, ⟨zk BK695⟩, ⟨zk BK701⟩, ⟨zb10 HB GE643 GE644 GE654 GE655 GE665 GE666 GE675 GE689 GE695 GE701⟩⟩
       case rest =>
        clear HC418
        try clear c1
        try clear c2
        try clear p2
        try clear c3
        try clear c4
        try clear c5
        try clear p6
        try clear c13
        try clear c14
        try clear c15
        try clear c16
        try clear c17
        try clear c18
        try clear c19
        try clear c20
        try clear c21
        try clear c22
        try clear c23
        try clear c24
        try clear c25
        try clear c26
        try clear c27
        try clear c28
        try clear c29
        try clear c30
        try clear c31
        try clear c32
        try clear c33
        try clear c34
        try clear c35
        try clear c36
        try clear c37
        try clear c38
        try clear c39
        try clear c40
        try clear c41
        try clear c42
        try clear c43
        try clear c44
        try clear c45
        try clear c46
        try clear c47
        try clear c48
        try clear c49
        try clear c50
        try clear c51
        try clear c52
        try clear c53
        try clear c54
        try clear c55
        try clear p64
        try clear c131
        try clear c134
        try clear c135
        try clear c136
        try clear c137
        try clear c138
        try clear c139
        try clear c140
        try clear c142
        try clear c143
        try clear c144
        try clear c145
        try clear c146
        try clear c147
        try clear c150
        try clear c151
        try clear c152
        try clear c153
        try clear c154
        try clear c156
        try clear c157
        try clear c158
        try clear c159
        try clear c162
        try clear c163
        try clear c164
        try clear c165
        try clear c166
        try clear c167
        try clear c168
        try clear c169
        try clear c170
        try clear c172
        try clear c173
        try clear c174
        try clear c175
        try clear c176
        try clear c177
        try clear c178
        try clear c179
        try clear c182
        try clear c183
        try clear c184
        try clear c185
        try clear c186
        try clear c187
        try clear c188
        try clear c190
        try clear c191
        try clear c192
        try clear c193
        try clear c194
        try clear c195
        try clear c198
        try clear c199
        try clear c200
        try clear c201
        try clear c202
        try clear c203
        try clear c204
        try clear c205
        try clear c206
        try clear c208
        try clear c209
        try clear c210
        try clear c211
        try clear c212
        try clear c213
        try clear c214
        try clear c215
        try clear c218
        try clear c219
        try clear c220
        try clear c221
        try clear c222
        try clear c223
        try clear c224
        try clear c226
        try clear c227
        try clear c228
        try clear c229
        try clear c230
        try clear c231
        try clear c234
        try clear c235
        try clear c236
        try clear c237
        try clear c238
        try clear c239
        try clear c240
        try clear c241
        try clear c242
        try clear c244
        try clear c245
        try clear c246
        try clear c247
        try clear c248
        try clear c249
        try clear c250
        try clear c251
        try clear c254
        try clear c255
        try clear c256
        try clear c257
        try clear c258
        try clear c259
        try clear c260
        try clear c262
        try clear c263
        try clear c264
        try clear c265
        try clear c266
        try clear c267
        try clear c270
        try clear c271
        try clear c272
        try clear c273
        try clear c274
        try clear c275
        try clear c276
        try clear c277
        try clear c278
        try clear c280
        try clear c281
        try clear c282
        try clear c283
        try clear c284
        try clear c285
        try clear c286
        try clear c287
        try clear c290
        try clear c291
        try clear c292
        try clear c293
        try clear c294
        try clear c295
        try clear c296
        try clear c298
        try clear c299
        try clear c300
        try clear c301
        try clear c302
        try clear c303
        try clear c306
        try clear c307
        try clear c308
        try clear c309
        try clear c310
        try clear c311
        try clear c312
        try clear c313
        try clear c314
        try clear c316
        try clear c317
        try clear c318
        try clear c319
        try clear c320
        try clear c321
        try clear c322
        try clear c323
        try clear c326
        try clear c328
        try clear c328b0
        try clear c328b1
        try clear c331
        try clear c331b0
        try clear c331b1
        try clear c332
        try clear c332b0
        try clear c332b1
        try clear c333
        try clear c333b0
        try clear c334
        try clear c335
        try clear c336
        try clear c337
        try clear c338
        try clear c339
        try clear c340
        try clear c341
        try clear c342
        try clear c345
        try clear c346
        try clear c347
        try clear c348
        try clear c349
        try clear c350
        try clear c351
        try clear c352
        try clear c355
        try clear c356
        try clear c357
        try clear c358
        try clear c359
        try clear c360
        try clear c361
        try clear c362
        try clear c363
        try clear c366
        try clear c367
        try clear c368
        try clear c369
        try clear c370
        try clear c371
        try clear c372
        try clear c373
        try clear c376
        try clear c377
        try clear c378
        try clear c379
        try clear c380
        try clear c381
        try clear c382
        try clear c383
        try clear c384
        try clear c387
        try clear c388
        try clear c389
        try clear c390
        try clear c391
        try clear c392
        try clear c393
        try clear c394
        try clear c397
        try clear c398
        try clear c399
        try clear c400
        try clear c401
        try clear c402
        try clear c403
        try clear c404
        try clear c405
        try clear c408
        try clear c409
        try clear c410
        try clear c411
        try clear c412
        try clear c413
        try clear c414
        try clear c415
        try clear c419
        try clear c419b0
        try clear c419b1
        try clear c421
        try clear c421b0
        try clear c421b1
        try clear c422
        try clear c422b0
        try clear c424
        try clear c424b0
        try clear c424b1
        try clear c425
        try clear c426
        try clear c427
        try clear c428
        try clear c429
        try clear c430
        try clear c431
        try clear c432
        try clear c433
        try clear c437
        try clear c438
        try clear c439
        try clear c440
        try clear c441
        try clear c442
        try clear c443
        try clear c444
        try clear c445
        try clear c446
        try clear c452
        try clear c453
        try clear c454
        try clear c455
        try clear c456
        try clear c457
        try clear c458
        try clear c459
        try clear c460
        try clear c461
        try clear c462
        try clear c465
        try clear c466
        try clear c467
        try clear c468
        try clear c469
        try clear c470
        try clear c471
        try clear c472
        try clear c473
        try clear c477
        try clear c478
        try clear c479
        try clear c480
        try clear c481
        try clear c482
        try clear c483
        try clear c484
        try clear c485
        try clear c486
        try clear c492
        try clear c493
        try clear c494
        try clear c495
        try clear c496
        try clear c497
        try clear c498
        try clear c499
        try clear c500
        try clear c501
        try clear c502
        try clear c505
        try clear c506
        try clear c507
        try clear c508
        try clear c509
        try clear c510
        try clear c511
        try clear c512
        try clear c513
        try clear c517
        try clear c518
        try clear c519
        try clear c520
        try clear c521
        try clear c522
        try clear c523
        try clear c524
        try clear c525
        try clear c526
        try clear c529
        try clear c530
        try clear c531
        try clear c532
        try clear c533
        try clear c534
        try clear c535
        try clear c536
        try clear c537
        try clear c541
        try clear c542
        try clear c543
        try clear c544
        try clear c545
        try clear c546
        try clear c547
        try clear c548
        try clear c549
        try clear c550
        try clear hcz103
        try clear hcz123
        try clear hcz132
        try clear hcz141
        try clear hcz148
        try clear hcz155
        try clear hcz160
        try clear hcz171_0
        try clear hcz171_1
        try clear hcz180_0
        try clear hcz180_1
        try clear hcz189_0
        try clear hcz189_1
        try clear hcz18
        try clear hcz196_0
        try clear hcz196_1
        try clear hcz207_0
        try clear hcz207_1
        try clear hcz20
        try clear hcz216_0
        try clear hcz216_1
        try clear hcz225_0
        try clear hcz225_1
        try clear hcz232_0
        try clear hcz232_1
        try clear hcz243_0
        try clear hcz243_1
        try clear hcz252_0
        try clear hcz252_1
        try clear hcz261_0
        try clear hcz261_1
        try clear hcz268_0
        try clear hcz268_1
        try clear hcz279_0
        try clear hcz279_1
        try clear hcz288_0
        try clear hcz288_1
        try clear hcz297_0
        try clear hcz297_1
        try clear hcz29
        try clear hcz304_0
        try clear hcz304_1
        try clear hcz315_0
        try clear hcz315_1
        try clear hcz324_0
        try clear hcz324_1
        try clear hcz33
        try clear hcz343_0
        try clear hcz343_1
        try clear hcz353_0
        try clear hcz353_1
        try clear hcz35
        try clear hcz364
        try clear hcz36
        try clear hcz374
        try clear hcz385_0
        try clear hcz385_1
        try clear hcz395_0
        try clear hcz395_1
        try clear hcz406_0
        try clear hcz406_1
        try clear hcz416_0
        try clear hcz416_1
        try clear hcz434
        try clear hcz447
        try clear hcz449
        try clear hcz45
        try clear hcz463
        try clear hcz474_0
        try clear hcz474_1
        try clear hcz487_0
        try clear hcz487_1
        try clear hcz489_0
        try clear hcz489_1
        try clear hcz503_0
        try clear hcz503_1
        try clear hcz514
        try clear hcz51
        try clear hcz527
        try clear hcz538_0
        try clear hcz538_1
        try clear hcz551_0
        try clear hcz551_1
        try clear hcz61
        try clear hcz65
        try clear hcz76
        try clear hcz89
        try clear hcz91
        try clear hfz171_0
        try clear hfz171_1
        try clear hfz180_0
        try clear hfz180_1
        try clear hfz189_0
        try clear hfz189_1
        try clear hfz196_0
        try clear hfz196_1
        try clear hfz207_0
        try clear hfz207_1
        try clear hfz216_0
        try clear hfz216_1
        try clear hfz225_0
        try clear hfz225_1
        try clear hfz232_0
        try clear hfz232_1
        try clear hfz243_0
        try clear hfz243_1
        try clear hfz252_0
        try clear hfz252_1
        try clear hfz261_0
        try clear hfz261_1
        try clear hfz268_0
        try clear hfz268_1
        try clear hfz279_0
        try clear hfz279_1
        try clear hfz288_0
        try clear hfz288_1
        try clear hfz297_0
        try clear hfz297_1
        try clear hfz304_0
        try clear hfz304_1
        try clear hfz315_0
        try clear hfz315_1
        try clear hfz324_0
        try clear hfz324_1
        try clear hfz343_0
        try clear hfz343_1
        try clear hfz353_0
        try clear hfz353_1
        try clear hfz385_0
        try clear hfz385_1
        try clear hfz395_0
        try clear hfz395_1
        try clear hfz406_0
        try clear hfz406_1
        try clear hfz416_0
        try clear hfz416_1
        try clear hfz474_0
        try clear hfz474_1
        try clear hfz487_0
        try clear hfz487_1
        try clear hfz489_0
        try clear hfz489_1
        try clear hfz503_0
        try clear hfz503_1
        try clear hfz538_0
        try clear hfz538_1
        try clear hfz551_0
        try clear hfz551_1
        obtain ⟨kq, HA, HJ417, HO_3, HO_644001, HO_645001, HO_655001, HO_656001, HO_666001, HO_667001, HO_676001, HO_690001, HO_696001, HO_702001, BK643, BK644, BK654, BK655, BK665, BK666, BK675, BK689, BK695, BK701, HB⟩ := hcut
        cases kq with
        | zero => exact absurd HA.out (by simp [laws_FnMoved.j2])
        | succ kj417 =>
         have H := HA.out
         clear HA
         simp only [laws_FnMoved.j2] at H
         have H' := jA H
         clear H
         go_wp2
         repeat (go_quiet (fail); try go_wp2)
         go_loopg [37] kj417 (fun kq v37 w' => ∃ (x37_4 : Int), v37 = .int .i64 x37_4 ∧ Aside0 (laws_FnMoved.l0 kq t630 t653 x37_4 t633 t634 t637 t638 t645 t646 t649 t650 = some r) ∧ Aside0 (kq ≤ kj417) ∧ Aside0 (Kd.R k65 65 w' w.heap.size (fun _ => True) (.slice Ao22 t630.length co22) t630) ∧ Aside0 (Kd.R (Kd.int .i64) 2 w' w.heap.size (fun k_ => some k_ ≠ ((.slice Ao21 t638.length co21) : Value).ownBlock ∧ some k_ ≠ ((.slice Ao30 t646.length co30) : Value).ownBlock ∧ some k_ ≠ ((.slice Ao34 t650.length co34) : Value).ownBlock ∧ some k_ ≠ ((.slice Ao46 t657.length co46) : Value).ownBlock ∧ some k_ ≠ ((.slice Ao52 t661.length co52) : Value).ownBlock ∧ some k_ ≠ ((.slice Ao62 t671.length co62) : Value).ownBlock ∧ some k_ ≠ ((.slice Ao77 t684.length co77) : Value).ownBlock ∧ some k_ ≠ ((.slice Ao90 t691.length co90) : Value).ownBlock ∧ some k_ ≠ ((.slice Ao104 t697.length co104) : Value).ownBlock) (.slice Ao19 t634.length co19) t634) ∧ Aside0 (Kd.R (Kd.int .i64) 2 w' w.heap.size (fun k_ => some k_ ≠ ((.slice Ao19 t634.length co19) : Value).ownBlock ∧ some k_ ≠ ((.slice Ao30 t646.length co30) : Value).ownBlock ∧ some k_ ≠ ((.slice Ao34 t650.length co34) : Value).ownBlock ∧ some k_ ≠ ((.slice Ao46 t657.length co46) : Value).ownBlock ∧ some k_ ≠ ((.slice Ao52 t661.length co52) : Value).ownBlock ∧ some k_ ≠ ((.slice Ao62 t671.length co62) : Value).ownBlock ∧ some k_ ≠ ((.slice Ao77 t684.length co77) : Value).ownBlock ∧ some k_ ≠ ((.slice Ao90 t691.length co90) : Value).ownBlock ∧ some k_ ≠ ((.slice Ao104 t697.length co104) : Value).ownBlock) (.slice Ao21 t638.length co21) t638) ∧ Aside0 (Kd.R (Kd.int .i64) 2 w' w.heap.size (fun k_ => some k_ ≠ ((.slice Ao19 t634.length co19) : Value).ownBlock ∧ some k_ ≠ ((.slice Ao21 t638.length co21) : Value).ownBlock ∧ some k_ ≠ ((.slice Ao34 t650.length co34) : Value).ownBlock ∧ some k_ ≠ ((.slice Ao46 t657.length co46) : Value).ownBlock ∧ some k_ ≠ ((.slice Ao52 t661.length co52) : Value).ownBlock ∧ some k_ ≠ ((.slice Ao62 t671.length co62) : Value).ownBlock ∧ some k_ ≠ ((.slice Ao77 t684.length co77) : Value).ownBlock ∧ some k_ ≠ ((.slice Ao90 t691.length co90) : Value).ownBlock ∧ some k_ ≠ ((.slice Ao104 t697.length co104) : Value).ownBlock) (.slice Ao30 t646.length co30) t646) ∧ Aside0 (Kd.R (Kd.int .i64) 2 w' w.heap.size (fun k_ => some k_ ≠ ((.slice Ao19 t634.length co19) : Value).ownBlock ∧ some k_ ≠ ((.slice Ao21 t638.length co21) : Value).ownBlock ∧ some k_ ≠ ((.slice Ao30 t646.length co30) : Value).ownBlock ∧ some k_ ≠ ((.slice Ao46 t657.length co46) : Value).ownBlock ∧ some k_ ≠ ((.slice Ao52 t661.length co52) : Value).ownBlock ∧ some k_ ≠ ((.slice Ao62 t671.length co62) : Value).ownBlock ∧ some k_ ≠ ((.slice Ao77 t684.length co77) : Value).ownBlock ∧ some k_ ≠ ((.slice Ao90 t691.length co90) : Value).ownBlock ∧ some k_ ≠ ((.slice Ao104 t697.length co104) : Value).ownBlock) (.slice Ao34 t650.length co34) t650) ∧ Aside0 (Kd.R (Kd.int .i64) 2 w' w.heap.size (fun k_ => some k_ ≠ ((.slice Ao19 t634.length co19) : Value).ownBlock ∧ some k_ ≠ ((.slice Ao21 t638.length co21) : Value).ownBlock ∧ some k_ ≠ ((.slice Ao30 t646.length co30) : Value).ownBlock ∧ some k_ ≠ ((.slice Ao34 t650.length co34) : Value).ownBlock ∧ some k_ ≠ ((.slice Ao52 t661.length co52) : Value).ownBlock ∧ some k_ ≠ ((.slice Ao62 t671.length co62) : Value).ownBlock ∧ some k_ ≠ ((.slice Ao77 t684.length co77) : Value).ownBlock ∧ some k_ ≠ ((.slice Ao90 t691.length co90) : Value).ownBlock ∧ some k_ ≠ ((.slice Ao104 t697.length co104) : Value).ownBlock) (.slice Ao46 t657.length co46) t657) ∧ Aside0 (Kd.R (Kd.int .i64) 2 w' w.heap.size (fun k_ => some k_ ≠ ((.slice Ao19 t634.length co19) : Value).ownBlock ∧ some k_ ≠ ((.slice Ao21 t638.length co21) : Value).ownBlock ∧ some k_ ≠ ((.slice Ao30 t646.length co30) : Value).ownBlock ∧ some k_ ≠ ((.slice Ao34 t650.length co34) : Value).ownBlock ∧ some k_ ≠ ((.slice Ao46 t657.length co46) : Value).ownBlock ∧ some k_ ≠ ((.slice Ao62 t671.length co62) : Value).ownBlock ∧ some k_ ≠ ((.slice Ao77 t684.length co77) : Value).ownBlock ∧ some k_ ≠ ((.slice Ao90 t691.length co90) : Value).ownBlock ∧ some k_ ≠ ((.slice Ao104 t697.length co104) : Value).ownBlock) (.slice Ao52 t661.length co52) t661) ∧ Aside0 (Kd.R (Kd.int .i64) 2 w' w.heap.size (fun k_ => some k_ ≠ ((.slice Ao19 t634.length co19) : Value).ownBlock ∧ some k_ ≠ ((.slice Ao21 t638.length co21) : Value).ownBlock ∧ some k_ ≠ ((.slice Ao30 t646.length co30) : Value).ownBlock ∧ some k_ ≠ ((.slice Ao34 t650.length co34) : Value).ownBlock ∧ some k_ ≠ ((.slice Ao46 t657.length co46) : Value).ownBlock ∧ some k_ ≠ ((.slice Ao52 t661.length co52) : Value).ownBlock ∧ some k_ ≠ ((.slice Ao77 t684.length co77) : Value).ownBlock ∧ some k_ ≠ ((.slice Ao90 t691.length co90) : Value).ownBlock ∧ some k_ ≠ ((.slice Ao104 t697.length co104) : Value).ownBlock) (.slice Ao62 t671.length co62) t671) ∧ Aside0 (Kd.R (Kd.int .i64) 2 w' w.heap.size (fun k_ => some k_ ≠ ((.slice Ao19 t634.length co19) : Value).ownBlock ∧ some k_ ≠ ((.slice Ao21 t638.length co21) : Value).ownBlock ∧ some k_ ≠ ((.slice Ao30 t646.length co30) : Value).ownBlock ∧ some k_ ≠ ((.slice Ao34 t650.length co34) : Value).ownBlock ∧ some k_ ≠ ((.slice Ao46 t657.length co46) : Value).ownBlock ∧ some k_ ≠ ((.slice Ao52 t661.length co52) : Value).ownBlock ∧ some k_ ≠ ((.slice Ao62 t671.length co62) : Value).ownBlock ∧ some k_ ≠ ((.slice Ao90 t691.length co90) : Value).ownBlock ∧ some k_ ≠ ((.slice Ao104 t697.length co104) : Value).ownBlock) (.slice Ao77 t684.length co77) t684) ∧ Aside0 (Kd.R (Kd.int .i64) 2 w' w.heap.size (fun k_ => some k_ ≠ ((.slice Ao19 t634.length co19) : Value).ownBlock ∧ some k_ ≠ ((.slice Ao21 t638.length co21) : Value).ownBlock ∧ some k_ ≠ ((.slice Ao30 t646.length co30) : Value).ownBlock ∧ some k_ ≠ ((.slice Ao34 t650.length co34) : Value).ownBlock ∧ some k_ ≠ ((.slice Ao46 t657.length co46) : Value).ownBlock ∧ some k_ ≠ ((.slice Ao52 t661.length co52) : Value).ownBlock ∧ some k_ ≠ ((.slice Ao62 t671.length co62) : Value).ownBlock ∧ some k_ ≠ ((.slice Ao77 t684.length co77) : Value).ownBlock ∧ some k_ ≠ ((.slice Ao104 t697.length co104) : Value).ownBlock) (.slice Ao90 t691.length co90) t691) ∧ Aside0 (Kd.R (Kd.int .i64) 2 w' w.heap.size (fun k_ => some k_ ≠ ((.slice Ao19 t634.length co19) : Value).ownBlock ∧ some k_ ≠ ((.slice Ao21 t638.length co21) : Value).ownBlock ∧ some k_ ≠ ((.slice Ao30 t646.length co30) : Value).ownBlock ∧ some k_ ≠ ((.slice Ao34 t650.length co34) : Value).ownBlock ∧ some k_ ≠ ((.slice Ao46 t657.length co46) : Value).ownBlock ∧ some k_ ≠ ((.slice Ao52 t661.length co52) : Value).ownBlock ∧ some k_ ≠ ((.slice Ao62 t671.length co62) : Value).ownBlock ∧ some k_ ≠ ((.slice Ao77 t684.length co77) : Value).ownBlock ∧ some k_ ≠ ((.slice Ao90 t691.length co90) : Value).ownBlock) (.slice Ao104 t697.length co104) t697) ∧ Aside0 (w'.heap[gb643]? = some (.cells #[.int .i64 t633, (.slice Ao19 t634.length co19)] 28 (0, 0))) ∧ Aside0 (w'.heap[gb644]? = some (.cells #[.int .i64 t637, (.slice Ao21 t638.length co21)] 28 (0, 0))) ∧ Aside0 (w'.heap[gb654]? = some (.cells #[.int .i64 t645, (.slice Ao30 t646.length co30)] 28 (0, 0))) ∧ Aside0 (w'.heap[gb655]? = some (.cells #[.int .i64 t649, (.slice Ao34 t650.length co34)] 28 (0, 0))) ∧ Aside0 (w'.heap[gb665]? = some (.cells #[.int .i64 t656, (.slice Ao46 t657.length co46)] 28 (0, 0))) ∧ Aside0 (w'.heap[gb666]? = some (.cells #[.int .i64 t660, (.slice Ao52 t661.length co52)] 28 (0, 0))) ∧ Aside0 (w'.heap[gb675]? = some (.cells #[.int .i64 t670, (.slice Ao62 t671.length co62)] 28 (0, 0))) ∧ Aside0 (w'.heap[gb689]? = some (.cells #[.int .i64 t683, (.slice Ao77 t684.length co77)] 28 (0, 0))) ∧ Aside0 (w'.heap[gb695]? = some (.cells #[.int .i64 t690, (.slice Ao90 t691.length co90)] 28 (0, 0))) ∧ Aside0 (w'.heap[gb701]? = some (.cells #[.int .i64 t696, (.slice Ao104 t697.length co104)] 28 (0, 0))) ∧ Aside0 (Below w.heap.size w w'))
         case atStart => exact ⟨(0), zz, H', ⟨Nat.le_refl _⟩, ⟨zo HO_3⟩, ⟨zo HO_644001⟩, ⟨zo HO_645001⟩, ⟨zo HO_655001⟩, ⟨zo HO_656001⟩, ⟨zo HO_666001⟩, ⟨zo HO_667001⟩, ⟨zo HO_676001⟩, ⟨zo HO_690001⟩, ⟨zo HO_696001⟩, ⟨zo HO_702001⟩, ⟨zk BK643⟩, ⟨zk BK644⟩, ⟨zk BK654⟩, ⟨zk BK655⟩, ⟨zk BK665⟩, ⟨zk BK666⟩, ⟨zk BK675⟩, ⟨zk BK689⟩, ⟨zk BK695⟩, ⟨zk BK701⟩, ⟨zb10 HB GE643 GE644 GE654 GE655 GE665 GE666 GE675 GE689 GE695 GE701⟩⟩
         case round =>
          clear H'
          try clear c1
          try clear c2
          try clear p2
          try clear c3
          try clear c4
          try clear c5
          try clear p6
          try clear c13
          try clear c14
          try clear c15
          try clear c16
          try clear c17
          try clear c18
          try clear c19
          try clear c20
          try clear c21
          try clear c22
          try clear c23
          try clear c24
          try clear c25
          try clear c26
          try clear c27
          try clear c28
          try clear c29
          try clear c30
          try clear c31
          try clear c32
          try clear c33
          try clear c34
          try clear c35
          try clear c36
          try clear c37
          try clear c38
          try clear c39
          try clear c40
          try clear c41
          try clear c42
          try clear c43
          try clear c44
          try clear c45
          try clear c46
          try clear c47
          try clear c48
          try clear c49
          try clear c50
          try clear c51
          try clear c52
          try clear c53
          try clear c54
          try clear c55
          try clear p64
          try clear c131
          try clear c134
          try clear c135
          try clear c136
          try clear c137
          try clear c138
          try clear c139
          try clear c140
          try clear c142
          try clear c143
          try clear c144
          try clear c145
          try clear c146
          try clear c147
          try clear c150
          try clear c151
          try clear c152
          try clear c153
          try clear c154
          try clear c156
          try clear c157
          try clear c158
          try clear c159
          try clear c162
          try clear c163
          try clear c164
          try clear c165
          try clear c166
          try clear c167
          try clear c168
          try clear c169
          try clear c170
          try clear c172
          try clear c173
          try clear c174
          try clear c175
          try clear c176
          try clear c177
          try clear c178
          try clear c179
          try clear c182
          try clear c183
          try clear c184
          try clear c185
          try clear c186
          try clear c187
          try clear c188
          try clear c190
          try clear c191
          try clear c192
          try clear c193
          try clear c194
          try clear c195
          try clear c198
          try clear c199
          try clear c200
          try clear c201
          try clear c202
          try clear c203
          try clear c204
          try clear c205
          try clear c206
          try clear c208
          try clear c209
          try clear c210
          try clear c211
          try clear c212
          try clear c213
          try clear c214
          try clear c215
          try clear c218
          try clear c219
          try clear c220
          try clear c221
          try clear c222
          try clear c223
          try clear c224
          try clear c226
          try clear c227
          try clear c228
          try clear c229
          try clear c230
          try clear c231
          try clear c234
          try clear c235
          try clear c236
          try clear c237
          try clear c238
          try clear c239
          try clear c240
          try clear c241
          try clear c242
          try clear c244
          try clear c245
          try clear c246
          try clear c247
          try clear c248
          try clear c249
          try clear c250
          try clear c251
          try clear c254
          try clear c255
          try clear c256
          try clear c257
          try clear c258
          try clear c259
          try clear c260
          try clear c262
          try clear c263
          try clear c264
          try clear c265
          try clear c266
          try clear c267
          try clear c270
          try clear c271
          try clear c272
          try clear c273
          try clear c274
          try clear c275
          try clear c276
          try clear c277
          try clear c278
          try clear c280
          try clear c281
          try clear c282
          try clear c283
          try clear c284
          try clear c285
          try clear c286
          try clear c287
          try clear c290
          try clear c291
          try clear c292
          try clear c293
          try clear c294
          try clear c295
          try clear c296
          try clear c298
          try clear c299
          try clear c300
          try clear c301
          try clear c302
          try clear c303
          try clear c306
          try clear c307
          try clear c308
          try clear c309
          try clear c310
          try clear c311
          try clear c312
          try clear c313
          try clear c314
          try clear c316
          try clear c317
          try clear c318
          try clear c319
          try clear c320
          try clear c321
          try clear c322
          try clear c323
          try clear c326
          try clear c328
          try clear c328b0
          try clear c328b1
          try clear c331
          try clear c331b0
          try clear c331b1
          try clear c332
          try clear c332b0
          try clear c332b1
          try clear c333
          try clear c333b0
          try clear c334
          try clear c335
          try clear c336
          try clear c337
          try clear c338
          try clear c339
          try clear c340
          try clear c341
          try clear c342
          try clear c345
          try clear c346
          try clear c347
          try clear c348
          try clear c349
          try clear c350
          try clear c351
          try clear c352
          try clear c355
          try clear c356
          try clear c357
          try clear c358
          try clear c359
          try clear c360
          try clear c361
          try clear c362
          try clear c363
          try clear c366
          try clear c367
          try clear c368
          try clear c369
          try clear c370
          try clear c371
          try clear c372
          try clear c373
          try clear c376
          try clear c377
          try clear c378
          try clear c379
          try clear c380
          try clear c381
          try clear c382
          try clear c383
          try clear c384
          try clear c387
          try clear c388
          try clear c389
          try clear c390
          try clear c391
          try clear c392
          try clear c393
          try clear c394
          try clear c397
          try clear c398
          try clear c399
          try clear c400
          try clear c401
          try clear c402
          try clear c403
          try clear c404
          try clear c405
          try clear c408
          try clear c409
          try clear c410
          try clear c411
          try clear c412
          try clear c413
          try clear c414
          try clear c415
          try clear c419
          try clear c419b0
          try clear c419b1
          try clear c421
          try clear c421b0
          try clear c421b1
          try clear c422
          try clear c422b0
          try clear c424
          try clear c424b0
          try clear c424b1
          try clear c425
          try clear c426
          try clear c427
          try clear c428
          try clear c429
          try clear c430
          try clear c431
          try clear c432
          try clear c433
          try clear c437
          try clear c438
          try clear c439
          try clear c440
          try clear c441
          try clear c442
          try clear c443
          try clear c444
          try clear c445
          try clear c446
          try clear c452
          try clear c453
          try clear c454
          try clear c455
          try clear c456
          try clear c457
          try clear c458
          try clear c459
          try clear c460
          try clear c461
          try clear c462
          try clear c465
          try clear c466
          try clear c467
          try clear c468
          try clear c469
          try clear c470
          try clear c471
          try clear c472
          try clear c473
          try clear c477
          try clear c478
          try clear c479
          try clear c480
          try clear c481
          try clear c482
          try clear c483
          try clear c484
          try clear c485
          try clear c486
          try clear c492
          try clear c493
          try clear c494
          try clear c495
          try clear c496
          try clear c497
          try clear c498
          try clear c499
          try clear c500
          try clear c501
          try clear c502
          try clear c505
          try clear c506
          try clear c507
          try clear c508
          try clear c509
          try clear c510
          try clear c511
          try clear c512
          try clear c513
          try clear c517
          try clear c518
          try clear c519
          try clear c520
          try clear c521
          try clear c522
          try clear c523
          try clear c524
          try clear c525
          try clear c526
          try clear c529
          try clear c530
          try clear c531
          try clear c532
          try clear c533
          try clear c534
          try clear c535
          try clear c536
          try clear c537
          try clear c541
          try clear c542
          try clear c543
          try clear c544
          try clear c545
          try clear c546
          try clear c547
          try clear c548
          try clear c549
          try clear c550
          try clear hcz103
          try clear hcz123
          try clear hcz132
          try clear hcz141
          try clear hcz148
          try clear hcz155
          try clear hcz160
          try clear hcz171_0
          try clear hcz171_1
          try clear hcz180_0
          try clear hcz180_1
          try clear hcz189_0
          try clear hcz189_1
          try clear hcz18
          try clear hcz196_0
          try clear hcz196_1
          try clear hcz207_0
          try clear hcz207_1
          try clear hcz20
          try clear hcz216_0
          try clear hcz216_1
          try clear hcz225_0
          try clear hcz225_1
          try clear hcz232_0
          try clear hcz232_1
          try clear hcz243_0
          try clear hcz243_1
          try clear hcz252_0
          try clear hcz252_1
          try clear hcz261_0
          try clear hcz261_1
          try clear hcz268_0
          try clear hcz268_1
          try clear hcz279_0
          try clear hcz279_1
          try clear hcz288_0
          try clear hcz288_1
          try clear hcz297_0
          try clear hcz297_1
          try clear hcz29
          try clear hcz304_0
          try clear hcz304_1
          try clear hcz315_0
          try clear hcz315_1
          try clear hcz324_0
          try clear hcz324_1
          try clear hcz33
          try clear hcz343_0
          try clear hcz343_1
          try clear hcz353_0
          try clear hcz353_1
          try clear hcz35
          try clear hcz364
          try clear hcz36
          try clear hcz374
          try clear hcz385_0
          try clear hcz385_1
          try clear hcz395_0
          try clear hcz395_1
          try clear hcz406_0
          try clear hcz406_1
          try clear hcz416_0
          try clear hcz416_1
          try clear hcz434
          try clear hcz447
          try clear hcz449
          try clear hcz45
          try clear hcz463
          try clear hcz474_0
          try clear hcz474_1
          try clear hcz487_0
          try clear hcz487_1
          try clear hcz489_0
          try clear hcz489_1
          try clear hcz503_0
          try clear hcz503_1
          try clear hcz514
          try clear hcz51
          try clear hcz527
          try clear hcz538_0
          try clear hcz538_1
          try clear hcz551_0
          try clear hcz551_1
          try clear hcz61
          try clear hcz65
          try clear hcz76
          try clear hcz89
          try clear hcz91
          try clear hfz171_0
          try clear hfz171_1
          try clear hfz180_0
          try clear hfz180_1
          try clear hfz189_0
          try clear hfz189_1
          try clear hfz196_0
          try clear hfz196_1
          try clear hfz207_0
          try clear hfz207_1
          try clear hfz216_0
          try clear hfz216_1
          try clear hfz225_0
          try clear hfz225_1
          try clear hfz232_0
          try clear hfz232_1
          try clear hfz243_0
          try clear hfz243_1
          try clear hfz252_0
          try clear hfz252_1
          try clear hfz261_0
          try clear hfz261_1
          try clear hfz268_0
          try clear hfz268_1
          try clear hfz279_0
          try clear hfz279_1
          try clear hfz288_0
          try clear hfz288_1
          try clear hfz297_0
          try clear hfz297_1
          try clear hfz304_0
          try clear hfz304_1
          try clear hfz315_0
          try clear hfz315_1
          try clear hfz324_0
          try clear hfz324_1
          try clear hfz343_0
          try clear hfz343_1
          try clear hfz353_0
          try clear hfz353_1
          try clear hfz385_0
          try clear hfz385_1
          try clear hfz395_0
          try clear hfz395_1
          try clear hfz406_0
          try clear hfz406_1
          try clear hfz416_0
          try clear hfz416_1
          try clear hfz474_0
          try clear hfz474_1
          try clear hfz487_0
          try clear hfz487_1
          try clear hfz489_0
          try clear hfz489_1
          try clear hfz503_0
          try clear hfz503_1
          try clear hfz538_0
          try clear hfz538_1
          try clear hfz551_0
          try clear hfz551_1
          try clear p64
          obtain ⟨x37_4, rfl, HA, HK4, HO_3, HO_644001, HO_645001, HO_655001, HO_656001, HO_666001, HO_667001, HO_676001, HO_690001, HO_696001, HO_702001, BK643, BK644, BK654, BK655, BK665, BK666, BK675, BK689, BK695, BK701, HB⟩ := hrel
          cases gk with
          | zero => exact absurd HA.out (by simp [laws_FnMoved.l0])
          | succ k4 =>
           have H := HA.out
           clear HA
           simp only [laws_FnMoved.l0] at H
           have HC553 := jA H
           clear H
           go_upto_region 28 with (fail)
           repeat (go_quiet (fail); go_upto_region 28 with (fail))
           go_cut [204] (fun v204 wc => ∃ (kq : Nat) (x204_552 : Bool), v204 = .bool x204_552 ∧ Aside0 (laws_FnMoved.j4 kq t630 t653 x37_4 x204_552 t633 t634 t637 t638 t645 t646 t649 t650 = some r) ∧ Aside0 (kq ≤ k4) ∧ Aside0 (Kd.R k65 65 wc w.heap.size (fun _ => True) (.slice Ao22 t630.length co22) t630) ∧ Aside0 (Kd.R (Kd.int .i64) 2 wc w.heap.size (fun k_ => some k_ ≠ ((.slice Ao21 t638.length co21) : Value).ownBlock ∧ some k_ ≠ ((.slice Ao30 t646.length co30) : Value).ownBlock ∧ some k_ ≠ ((.slice Ao34 t650.length co34) : Value).ownBlock ∧ some k_ ≠ ((.slice Ao46 t657.length co46) : Value).ownBlock ∧ some k_ ≠ ((.slice Ao52 t661.length co52) : Value).ownBlock ∧ some k_ ≠ ((.slice Ao62 t671.length co62) : Value).ownBlock ∧ some k_ ≠ ((.slice Ao77 t684.length co77) : Value).ownBlock ∧ some k_ ≠ ((.slice Ao90 t691.length co90) : Value).ownBlock ∧ some k_ ≠ ((.slice Ao104 t697.length co104) : Value).ownBlock) (.slice Ao19 t634.length co19) t634) ∧ Aside0 (Kd.R (Kd.int .i64) 2 wc w.heap.size (fun k_ => some k_ ≠ ((.slice Ao19 t634.length co19) : Value).ownBlock ∧ some k_ ≠ ((.slice Ao30 t646.length co30) : Value).ownBlock ∧ some k_ ≠ ((.slice Ao34 t650.length co34) : Value).ownBlock ∧ some k_ ≠ ((.slice Ao46 t657.length co46) : Value).ownBlock ∧ some k_ ≠ ((.slice Ao52 t661.length co52) : Value).ownBlock ∧ some k_ ≠ ((.slice Ao62 t671.length co62) : Value).ownBlock ∧ some k_ ≠ ((.slice Ao77 t684.length co77) : Value).ownBlock ∧ some k_ ≠ ((.slice Ao90 t691.length co90) : Value).ownBlock ∧ some k_ ≠ ((.slice Ao104 t697.length co104) : Value).ownBlock) (.slice Ao21 t638.length co21) t638) ∧ Aside0 (Kd.R (Kd.int .i64) 2 wc w.heap.size (fun k_ => some k_ ≠ ((.slice Ao19 t634.length co19) : Value).ownBlock ∧ some k_ ≠ ((.slice Ao21 t638.length co21) : Value).ownBlock ∧ some k_ ≠ ((.slice Ao34 t650.length co34) : Value).ownBlock ∧ some k_ ≠ ((.slice Ao46 t657.length co46) : Value).ownBlock ∧ some k_ ≠ ((.slice Ao52 t661.length co52) : Value).ownBlock ∧ some k_ ≠ ((.slice Ao62 t671.length co62) : Value).ownBlock ∧ some k_ ≠ ((.slice Ao77 t684.length co77) : Value).ownBlock ∧ some k_ ≠ ((.slice Ao90 t691.length co90) : Value).ownBlock ∧ some k_ ≠ ((.slice Ao104 t697.length co104) : Value).ownBlock) (.slice Ao30 t646.length co30) t646) ∧ Aside0 (Kd.R (Kd.int .i64) 2 wc w.heap.size (fun k_ => some k_ ≠ ((.slice Ao19 t634.length co19) : Value).ownBlock ∧ some k_ ≠ ((.slice Ao21 t638.length co21) : Value).ownBlock ∧ some k_ ≠ ((.slice Ao30 t646.length co30) : Value).ownBlock ∧ some k_ ≠ ((.slice Ao46 t657.length co46) : Value).ownBlock ∧ some k_ ≠ ((.slice Ao52 t661.length co52) : Value).ownBlock ∧ some k_ ≠ ((.slice Ao62 t671.length co62) : Value).ownBlock ∧ some k_ ≠ ((.slice Ao77 t684.length co77) : Value).ownBlock ∧ some k_ ≠ ((.slice Ao90 t691.length co90) : Value).ownBlock ∧ some k_ ≠ ((.slice Ao104 t697.length co104) : Value).ownBlock) (.slice Ao34 t650.length co34) t650) ∧ Aside0 (Kd.R (Kd.int .i64) 2 wc w.heap.size (fun k_ => some k_ ≠ ((.slice Ao19 t634.length co19) : Value).ownBlock ∧ some k_ ≠ ((.slice Ao21 t638.length co21) : Value).ownBlock ∧ some k_ ≠ ((.slice Ao30 t646.length co30) : Value).ownBlock ∧ some k_ ≠ ((.slice Ao34 t650.length co34) : Value).ownBlock ∧ some k_ ≠ ((.slice Ao52 t661.length co52) : Value).ownBlock ∧ some k_ ≠ ((.slice Ao62 t671.length co62) : Value).ownBlock ∧ some k_ ≠ ((.slice Ao77 t684.length co77) : Value).ownBlock ∧ some k_ ≠ ((.slice Ao90 t691.length co90) : Value).ownBlock ∧ some k_ ≠ ((.slice Ao104 t697.length co104) : Value).ownBlock) (.slice Ao46 t657.length co46) t657) ∧ Aside0 (Kd.R (Kd.int .i64) 2 wc w.heap.size (fun k_ => some k_ ≠ ((.slice Ao19 t634.length co19) : Value).ownBlock ∧ some k_ ≠ ((.slice Ao21 t638.length co21) : Value).ownBlock ∧ some k_ ≠ ((.slice Ao30 t646.length co30) : Value).ownBlock ∧ some k_ ≠ ((.slice Ao34 t650.length co34) : Value).ownBlock ∧ some k_ ≠ ((.slice Ao46 t657.length co46) : Value).ownBlock ∧ some k_ ≠ ((.slice Ao62 t671.length co62) : Value).ownBlock ∧ some k_ ≠ ((.slice Ao77 t684.length co77) : Value).ownBlock ∧ some k_ ≠ ((.slice Ao90 t691.length co90) : Value).ownBlock ∧ some k_ ≠ ((.slice Ao104 t697.length co104) : Value).ownBlock) (.slice Ao52 t661.length co52) t661) ∧ Aside0 (Kd.R (Kd.int .i64) 2 wc w.heap.size (fun k_ => some k_ ≠ ((.slice Ao19 t634.length co19) : Value).ownBlock ∧ some k_ ≠ ((.slice Ao21 t638.length co21) : Value).ownBlock ∧ some k_ ≠ ((.slice Ao30 t646.length co30) : Value).ownBlock ∧ some k_ ≠ ((.slice Ao34 t650.length co34) : Value).ownBlock ∧ some k_ ≠ ((.slice Ao46 t657.length co46) : Value).ownBlock ∧ some k_ ≠ ((.slice Ao52 t661.length co52) : Value).ownBlock ∧ some k_ ≠ ((.slice Ao77 t684.length co77) : Value).ownBlock ∧ some k_ ≠ ((.slice Ao90 t691.length co90) : Value).ownBlock ∧ some k_ ≠ ((.slice Ao104 t697.length co104) : Value).ownBlock) (.slice Ao62 t671.length co62) t671) ∧ Aside0 (Kd.R (Kd.int .i64) 2 wc w.heap.size (fun k_ => some k_ ≠ ((.slice Ao19 t634.length co19) : Value).ownBlock ∧ some k_ ≠ ((.slice Ao21 t638.length co21) : Value).ownBlock ∧ some k_ ≠ ((.slice Ao30 t646.length co30) : Value).ownBlock ∧ some k_ ≠ ((.slice Ao34 t650.length co34) : Value).ownBlock ∧ some k_ ≠ ((.slice Ao46 t657.length co46) : Value).ownBlock ∧ some k_ ≠ ((.slice Ao52 t661.length co52) : Value).ownBlock ∧ some k_ ≠ ((.slice Ao62 t671.length co62) : Value).ownBlock ∧ some k_ ≠ ((.slice Ao90 t691.length co90) : Value).ownBlock ∧ some k_ ≠ ((.slice Ao104 t697.length co104) : Value).ownBlock) (.slice Ao77 t684.length co77) t684) ∧ Aside0 (Kd.R (Kd.int .i64) 2 wc w.heap.size (fun k_ => some k_ ≠ ((.slice Ao19 t634.length co19) : Value).ownBlock ∧ some k_ ≠ ((.slice Ao21 t638.length co21) : Value).ownBlock ∧ some k_ ≠ ((.slice Ao30 t646.length co30) : Value).ownBlock ∧ some k_ ≠ ((.slice Ao34 t650.length co34) : Value).ownBlock ∧ some k_ ≠ ((.slice Ao46 t657.length co46) : Value).ownBlock ∧ some k_ ≠ ((.slice Ao52 t661.length co52) : Value).ownBlock ∧ some k_ ≠ ((.slice Ao62 t671.length co62) : Value).ownBlock ∧ some k_ ≠ ((.slice Ao77 t684.length co77) : Value).ownBlock ∧ some k_ ≠ ((.slice Ao104 t697.length co104) : Value).ownBlock) (.slice Ao90 t691.length co90) t691) ∧ Aside0 (Kd.R (Kd.int .i64) 2 wc w.heap.size (fun k_ => some k_ ≠ ((.slice Ao19 t634.length co19) : Value).ownBlock ∧ some k_ ≠ ((.slice Ao21 t638.length co21) : Value).ownBlock ∧ some k_ ≠ ((.slice Ao30 t646.length co30) : Value).ownBlock ∧ some k_ ≠ ((.slice Ao34 t650.length co34) : Value).ownBlock ∧ some k_ ≠ ((.slice Ao46 t657.length co46) : Value).ownBlock ∧ some k_ ≠ ((.slice Ao52 t661.length co52) : Value).ownBlock ∧ some k_ ≠ ((.slice Ao62 t671.length co62) : Value).ownBlock ∧ some k_ ≠ ((.slice Ao77 t684.length co77) : Value).ownBlock ∧ some k_ ≠ ((.slice Ao90 t691.length co90) : Value).ownBlock) (.slice Ao104 t697.length co104) t697) ∧ Aside0 (wc.heap[gb643]? = some (.cells #[.int .i64 t633, (.slice Ao19 t634.length co19)] 28 (0, 0))) ∧ Aside0 (wc.heap[gb644]? = some (.cells #[.int .i64 t637, (.slice Ao21 t638.length co21)] 28 (0, 0))) ∧ Aside0 (wc.heap[gb654]? = some (.cells #[.int .i64 t645, (.slice Ao30 t646.length co30)] 28 (0, 0))) ∧ Aside0 (wc.heap[gb655]? = some (.cells #[.int .i64 t649, (.slice Ao34 t650.length co34)] 28 (0, 0))) ∧ Aside0 (wc.heap[gb665]? = some (.cells #[.int .i64 t656, (.slice Ao46 t657.length co46)] 28 (0, 0))) ∧ Aside0 (wc.heap[gb666]? = some (.cells #[.int .i64 t660, (.slice Ao52 t661.length co52)] 28 (0, 0))) ∧ Aside0 (wc.heap[gb675]? = some (.cells #[.int .i64 t670, (.slice Ao62 t671.length co62)] 28 (0, 0))) ∧ Aside0 (wc.heap[gb689]? = some (.cells #[.int .i64 t683, (.slice Ao77 t684.length co77)] 28 (0, 0))) ∧ Aside0 (wc.heap[gb695]? = some (.cells #[.int .i64 t690, (.slice Ao90 t691.length co90)] 28 (0, 0))) ∧ Aside0 (wc.heap[gb701]? = some (.cells #[.int .i64 t696, (.slice Ao104 t697.length co104)] 28 (0, 0))) ∧ Aside0 (Below w.heap.size w wc))
           case first =>
            have H := HC553.out
            clear HC553
            by_cases c554 : t653 = 0
            ·rw [if_pos c554] at H
             have c554b0 : (t653 == 0) = true := beq_iff_eq.mpr c554
             have c554b1 : (t653 != 0) = false := bne_eq_false_iff_eq.mpr c554
             clear c554
             (first | rw [c554b0] | (simp only [i64_w, i32_w]; rw [c554b0]) | skip)
             have H' := jA H
             clear H
             go_wp2
             repeat (go_quiet (fail); try go_wp2)
             go_meet
             case rel => exact ⟨_, (decide (x37_4 < (t630.length : Int))), zz, H', ⟨by have := HJ12.out; have := HJ326.out; have := HJ417.out; have := HK4.out; first | omega | exact Nat.le_refl _⟩, ⟨zo HO_3⟩, ⟨zo HO_644001⟩, ⟨zo HO_645001⟩, ⟨zo HO_655001⟩, ⟨zo HO_656001⟩, ⟨zo HO_666001⟩, ⟨zo HO_667001⟩, ⟨zo HO_676001⟩, ⟨zo HO_690001⟩, ⟨zo HO_696001⟩, ⟨zo HO_702001⟩, ⟨zk BK643⟩, ⟨zk BK644⟩, ⟨zk BK654⟩, ⟨zk BK655⟩, ⟨zk BK665⟩, ⟨zk BK666⟩, ⟨zk BK675⟩, ⟨zk BK689⟩, ⟨zk BK695⟩, ⟨zk BK701⟩, ⟨zb10 HB GE643 GE644 GE654 GE655 GE665 GE666 GE675 GE689 GE695 GE701⟩⟩
            ·rw [if_neg c554] at H
             have c554b0 : (t653 == 0) = false := beq_eq_false_iff_ne.mpr c554
             have c554b1 : (t653 != 0) = true := bne_iff_ne.mpr c554
             (first | rw [c554b0] | (simp only [i64_w, i32_w]; rw [c554b0]) | skip)
             have H' := jA H
             clear H
             go_wp2
             repeat (go_quiet (fail); try go_wp2)
             go_meet
             case rel => exact ⟨_, (false), zz, H', ⟨by have := HJ12.out; have := HJ326.out; have := HJ417.out; have := HK4.out; first | omega | exact Nat.le_refl _⟩, ⟨zo HO_3⟩, ⟨zo HO_644001⟩, ⟨zo HO_645001⟩, ⟨zo HO_655001⟩, ⟨zo HO_656001⟩, ⟨zo HO_666001⟩, ⟨zo HO_667001⟩, ⟨zo HO_676001⟩, ⟨zo HO_690001⟩, ⟨zo HO_696001⟩, ⟨zo HO_702001⟩, ⟨zk BK643⟩, ⟨zk BK644⟩, ⟨zk BK654⟩, ⟨zk BK655⟩, ⟨zk BK665⟩, ⟨zk BK666⟩, ⟨zk BK675⟩, ⟨zk BK689⟩, ⟨zk BK695⟩, ⟨zk BK701⟩, ⟨zb10 HB GE643 GE644 GE654 GE655 GE665 GE666 GE675 GE689 GE695 GE701⟩⟩
           case rest =>
            clear HC553
            try clear c1
            try clear c2
            try clear p2
            try clear c3
            try clear c4
            try clear c5
            try clear p6
            try clear c15
            try clear c16
            try clear c17
            try clear c18
            try clear c19
            try clear c20
            try clear c21
            try clear c22
            try clear c23
            try clear c24
            try clear c25
            try clear c26
            try clear c27
            try clear c28
            try clear c29
            try clear c30
            try clear c31
            try clear c32
            try clear c33
            try clear c34
            try clear c35
            try clear c36
            try clear c37
            try clear c38
            try clear c39
            try clear c40
            try clear c41
            try clear c42
            try clear c43
            try clear c44
            try clear c45
            try clear c46
            try clear c47
            try clear c48
            try clear c49
            try clear c50
            try clear c51
            try clear c52
            try clear c53
            try clear c54
            try clear c55
            try clear p64
            try clear c158
            try clear c159
            try clear c162
            try clear c163
            try clear c164
            try clear c165
            try clear c166
            try clear c167
            try clear c168
            try clear c169
            try clear c170
            try clear c172
            try clear c173
            try clear c174
            try clear c175
            try clear c176
            try clear c177
            try clear c178
            try clear c179
            try clear c182
            try clear c183
            try clear c184
            try clear c185
            try clear c186
            try clear c187
            try clear c188
            try clear c190
            try clear c191
            try clear c192
            try clear c193
            try clear c194
            try clear c195
            try clear c198
            try clear c199
            try clear c200
            try clear c201
            try clear c202
            try clear c203
            try clear c204
            try clear c205
            try clear c206
            try clear c208
            try clear c209
            try clear c210
            try clear c211
            try clear c212
            try clear c213
            try clear c214
            try clear c215
            try clear c218
            try clear c219
            try clear c220
            try clear c221
            try clear c222
            try clear c223
            try clear c224
            try clear c226
            try clear c227
            try clear c228
            try clear c229
            try clear c230
            try clear c231
            try clear c234
            try clear c235
            try clear c236
            try clear c237
            try clear c238
            try clear c239
            try clear c240
            try clear c241
            try clear c242
            try clear c244
            try clear c245
            try clear c246
            try clear c247
            try clear c248
            try clear c249
            try clear c250
            try clear c251
            try clear c254
            try clear c255
            try clear c256
            try clear c257
            try clear c258
            try clear c259
            try clear c260
            try clear c262
            try clear c263
            try clear c264
            try clear c265
            try clear c266
            try clear c267
            try clear c270
            try clear c271
            try clear c272
            try clear c273
            try clear c274
            try clear c275
            try clear c276
            try clear c277
            try clear c278
            try clear c280
            try clear c281
            try clear c282
            try clear c283
            try clear c284
            try clear c285
            try clear c286
            try clear c287
            try clear c290
            try clear c291
            try clear c292
            try clear c293
            try clear c294
            try clear c295
            try clear c296
            try clear c298
            try clear c299
            try clear c300
            try clear c301
            try clear c302
            try clear c303
            try clear c306
            try clear c307
            try clear c308
            try clear c309
            try clear c310
            try clear c311
            try clear c312
            try clear c313
            try clear c314
            try clear c316
            try clear c317
            try clear c318
            try clear c319
            try clear c320
            try clear c321
            try clear c322
            try clear c323
            try clear c326
            try clear c328
            try clear c328b0
            try clear c328b1
            try clear c331
            try clear c331b0
            try clear c331b1
            try clear c332
            try clear c332b0
            try clear c332b1
            try clear c333
            try clear c333b0
            try clear c334
            try clear c335
            try clear c336
            try clear c337
            try clear c338
            try clear c339
            try clear c340
            try clear c341
            try clear c342
            try clear c345
            try clear c346
            try clear c347
            try clear c348
            try clear c349
            try clear c350
            try clear c351
            try clear c352
            try clear c355
            try clear c356
            try clear c357
            try clear c358
            try clear c359
            try clear c360
            try clear c361
            try clear c362
            try clear c363
            try clear c366
            try clear c367
            try clear c368
            try clear c369
            try clear c370
            try clear c371
            try clear c372
            try clear c373
            try clear c376
            try clear c377
            try clear c378
            try clear c379
            try clear c380
            try clear c381
            try clear c382
            try clear c383
            try clear c384
            try clear c387
            try clear c388
            try clear c389
            try clear c390
            try clear c391
            try clear c392
            try clear c393
            try clear c394
            try clear c397
            try clear c398
            try clear c399
            try clear c400
            try clear c401
            try clear c402
            try clear c403
            try clear c404
            try clear c405
            try clear c408
            try clear c409
            try clear c410
            try clear c411
            try clear c412
            try clear c413
            try clear c414
            try clear c415
            try clear c419
            try clear c419b0
            try clear c419b1
            try clear c421
            try clear c421b0
            try clear c421b1
            try clear c422
            try clear c422b0
            try clear c424
            try clear c424b0
            try clear c424b1
            try clear c425
            try clear c426
            try clear c427
            try clear c428
            try clear c429
            try clear c430
            try clear c431
            try clear c432
            try clear c433
            try clear c437
            try clear c438
            try clear c439
            try clear c440
            try clear c441
            try clear c442
            try clear c443
            try clear c444
            try clear c445
            try clear c446
            try clear c452
            try clear c453
            try clear c454
            try clear c455
            try clear c456
            try clear c457
            try clear c458
            try clear c459
            try clear c460
            try clear c461
            try clear c462
            try clear c465
            try clear c466
            try clear c467
            try clear c468
            try clear c469
            try clear c470
            try clear c471
            try clear c472
            try clear c473
            try clear c477
            try clear c478
            try clear c479
            try clear c480
            try clear c481
            try clear c482
            try clear c483
            try clear c484
            try clear c485
            try clear c486
            try clear c492
            try clear c493
            try clear c494
            try clear c495
            try clear c496
            try clear c497
            try clear c498
            try clear c499
            try clear c500
            try clear c501
            try clear c502
            try clear c505
            try clear c506
            try clear c507
            try clear c508
            try clear c509
            try clear c510
            try clear c511
            try clear c512
            try clear c513
            try clear c517
            try clear c518
            try clear c519
            try clear c520
            try clear c521
            try clear c522
            try clear c523
            try clear c524
            try clear c525
            try clear c526
            try clear c529
            try clear c530
            try clear c531
            try clear c532
            try clear c533
            try clear c534
            try clear c535
            try clear c536
            try clear c537
            try clear c541
            try clear c542
            try clear c543
            try clear c544
            try clear c545
            try clear c546
            try clear c547
            try clear c548
            try clear c549
            try clear c550
            try clear c554
            try clear c554b0
            try clear c554b1
            try clear hcz103
            try clear hcz123
            try clear hcz132
            try clear hcz141
            try clear hcz148
            try clear hcz155
            try clear hcz160
            try clear hcz171_0
            try clear hcz171_1
            try clear hcz180_0
            try clear hcz180_1
            try clear hcz189_0
            try clear hcz189_1
            try clear hcz18
            try clear hcz196_0
            try clear hcz196_1
            try clear hcz207_0
            try clear hcz207_1
            try clear hcz20
            try clear hcz216_0
            try clear hcz216_1
            try clear hcz225_0
            try clear hcz225_1
            try clear hcz232_0
            try clear hcz232_1
            try clear hcz243_0
            try clear hcz243_1
            try clear hcz252_0
            try clear hcz252_1
            try clear hcz261_0
            try clear hcz261_1
            try clear hcz268_0
            try clear hcz268_1
            try clear hcz279_0
            try clear hcz279_1
            try clear hcz288_0
            try clear hcz288_1
            try clear hcz297_0
            try clear hcz297_1
            try clear hcz29
            try clear hcz304_0
            try clear hcz304_1
            try clear hcz315_0
            try clear hcz315_1
            try clear hcz324_0
            try clear hcz324_1
            try clear hcz33
            try clear hcz343_0
            try clear hcz343_1
            try clear hcz353_0
            try clear hcz353_1
            try clear hcz35
            try clear hcz364
            try clear hcz36
            try clear hcz374
            try clear hcz385_0
            try clear hcz385_1
            try clear hcz395_0
            try clear hcz395_1
            try clear hcz406_0
            try clear hcz406_1
            try clear hcz416_0
            try clear hcz416_1
            try clear hcz434
            try clear hcz447
            try clear hcz449
            try clear hcz45
            try clear hcz463
            try clear hcz474_0
            try clear hcz474_1
            try clear hcz487_0
            try clear hcz487_1
            try clear hcz489_0
            try clear hcz489_1
            try clear hcz503_0
            try clear hcz503_1
            try clear hcz514
            try clear hcz51
            try clear hcz527
            try clear hcz538_0
            try clear hcz538_1
            try clear hcz551_0
            try clear hcz551_1
            try clear hcz61
            try clear hcz65
            try clear hcz76
            try clear hcz89
            try clear hcz91
            try clear hfz171_0
            try clear hfz171_1
            try clear hfz180_0
            try clear hfz180_1
            try clear hfz189_0
            try clear hfz189_1
            try clear hfz196_0
            try clear hfz196_1
            try clear hfz207_0
            try clear hfz207_1
            try clear hfz216_0
            try clear hfz216_1
            try clear hfz225_0
            try clear hfz225_1
            try clear hfz232_0
            try clear hfz232_1
            try clear hfz243_0
            try clear hfz243_1
            try clear hfz252_0
            try clear hfz252_1
            try clear hfz261_0
            try clear hfz261_1
            try clear hfz268_0
            try clear hfz268_1
            try clear hfz279_0
            try clear hfz279_1
            try clear hfz288_0
            try clear hfz288_1
            try clear hfz297_0
            try clear hfz297_1
            try clear hfz304_0
            try clear hfz304_1
            try clear hfz315_0
            try clear hfz315_1
            try clear hfz324_0
            try clear hfz324_1
            try clear hfz343_0
            try clear hfz343_1
            try clear hfz353_0
            try clear hfz353_1
            try clear hfz385_0
            try clear hfz385_1
            try clear hfz395_0
            try clear hfz395_1
            try clear hfz406_0
            try clear hfz406_1
            try clear hfz416_0
            try clear hfz416_1
            try clear hfz474_0
            try clear hfz474_1
            try clear hfz487_0
            try clear hfz487_1
            try clear hfz489_0
            try clear hfz489_1
            try clear hfz503_0
            try clear hfz503_1
            try clear hfz538_0
            try clear hfz538_1
            try clear hfz551_0
            try clear hfz551_1
            try clear p64
            obtain ⟨kq, x204_552, rfl, HA, HJ552, HO_3, HO_644001, HO_645001, HO_655001, HO_656001, HO_666001, HO_667001, HO_676001, HO_690001, HO_696001, HO_702001, BK643, BK644, BK654, BK655, BK665, BK666, BK675, BK689, BK695, BK701, HB⟩ := hcut
            cases kq with
            | zero => exact absurd HA.out (by simp [laws_FnMoved.j4])
            | succ kj552 =>
             have H := HA.out
             clear HA
             simp only [laws_FnMoved.j4] at H
             by_cases c555 : x204_552 = true
             ·as_aux_lemma =>
              subst c555
              rw [if_pos rfl] at H
              by_cases c556 : 0 ≤ x37_4
              ·as_aux_lemma =>
               rw [if_pos c556] at H
               have c556b0 : decide (0 ≤ x37_4) = true := jK c556
               clear c556
               by_cases c557 : x37_4 < (t646.length : Int)
               ·as_aux_lemma =>
                rw [if_pos c557] at H
                have c557b0 : decide (x37_4 < (t646.length : Int)) = true := jK c557
                clear c557
                by_cases c558 : x37_4 < (t650.length : Int)
                ·as_aux_lemma =>
                 rw [if_pos c558] at H
                 have c558b0 : decide (x37_4 < (t650.length : Int)) = true := jK c558
                 clear c558
                 by_cases c559 : x37_4 < (t634.length : Int)
                 ·as_aux_lemma =>
                  rw [if_pos c559] at H
                  have c559b0 : decide (x37_4 < (t634.length : Int)) = true := jK c559
                  clear c559
                  by_cases c560 : x37_4 < (t638.length : Int)
                  ·as_aux_lemma =>
                   rw [if_pos c560] at H
                   have c560b0 : decide (x37_4 < (t638.length : Int)) = true := jK c560
                   clear c560
                   by_cases c561 : (wrap64 ((rd t646 x37_4) + (rd t650 x37_4))) = (wrap64 ((rd t634 x37_4) + (rd t638 x37_4)))
                   ·as_aux_lemma =>
                    rw [if_pos c561] at H
                    have c561b0 : ((wrap64 ((rd t646 x37_4) + (rd t650 x37_4))) == (wrap64 ((rd t634 x37_4) + (rd t638 x37_4)))) = true := beq_iff_eq.mpr c561
                    have c561b1 : ((wrap64 ((rd t646 x37_4) + (rd t650 x37_4))) != (wrap64 ((rd t634 x37_4) + (rd t638 x37_4)))) = false := bne_eq_false_iff_eq.mpr c561
                    clear c561
                    have H' := jA H
                    clear H
                    have hnb562 := NB654_643.out
                    have hnc562 := NB643_654.out
                    have hnb563 := NB654_644.out
                    have hnc563 := NB644_654.out
                    have hnb564 := NB654_655.out
                    have hnc564 := NB655_654.out
                    have hnb565 := NB654_665.out
                    have hnc565 := NB665_654.out
                    have hnb566 := NB654_666.out
                    have hnc566 := NB666_654.out
                    have hnb567 := NB654_675.out
                    have hnc567 := NB675_654.out
                    have hnb568 := NB654_689.out
                    have hnc568 := NB689_654.out
                    have hnb569 := NB654_695.out
                    have hnc569 := NB695_654.out
                    have hnb570 := NB654_701.out
                    have hnc570 := NB701_654.out
                    have hcz571 := zc2 BK654
                    have p721 : 0 ≤ (x37_4 : Int) := jD za
                    have q721 : x37_4 < (t646.length : Int) := jD za
                    obtain ⟨ad721, e721, hx721_0⟩ := Kd.at_int (jO HO_655001.out).2.2 x37_4 p721 q721
                    cases e721
                    replace p721 := eq_true p721
                    replace q721 := eq_true q721
                    have hnb572 := NB655_643.out
                    have hnc572 := NB643_655.out
                    have hnb573 := NB655_644.out
                    have hnc573 := NB644_655.out
                    have hnb574 := NB655_665.out
                    have hnc574 := NB665_655.out
                    have hnb575 := NB655_666.out
                    have hnc575 := NB666_655.out
                    have hnb576 := NB655_675.out
                    have hnc576 := NB675_655.out
                    have hnb577 := NB655_689.out
                    have hnc577 := NB689_655.out
                    have hnb578 := NB655_695.out
                    have hnc578 := NB695_655.out
                    have hnb579 := NB655_701.out
                    have hnc579 := NB701_655.out
                    have hcz580 := zc2 BK655
                    have p722 : 0 ≤ (x37_4 : Int) := jD za
                    have q722 : x37_4 < (t650.length : Int) := jD za
                    obtain ⟨ad722, e722, hx722_0⟩ := Kd.at_int (jO HO_656001.out).2.2 x37_4 p722 q722
                    cases e722
                    replace p722 := eq_true p722
                    replace q722 := eq_true q722
                    have hnb581 := NB643_644.out
                    have hnc581 := NB644_643.out
                    have hnb582 := NB643_665.out
                    have hnc582 := NB665_643.out
                    have hnb583 := NB643_666.out
                    have hnc583 := NB666_643.out
                    have hnb584 := NB643_675.out
                    have hnc584 := NB675_643.out
                    have hnb585 := NB643_689.out
                    have hnc585 := NB689_643.out
                    have hnb586 := NB643_695.out
                    have hnc586 := NB695_643.out
                    have hnb587 := NB643_701.out
                    have hnc587 := NB701_643.out
                    have hcz588 := zc2 BK643
                    have p723 : 0 ≤ (x37_4 : Int) := jD za
                    have q723 : x37_4 < (t634.length : Int) := jD za
                    obtain ⟨ad723, e723, hx723_0⟩ := Kd.at_int (jO HO_644001.out).2.2 x37_4 p723 q723
                    cases e723
                    replace p723 := eq_true p723
                    replace q723 := eq_true q723
                    have hnb589 := NB644_665.out
                    have hnc589 := NB665_644.out
                    have hnb590 := NB644_666.out
                    have hnc590 := NB666_644.out
                    have hnb591 := NB644_675.out
                    have hnc591 := NB675_644.out
                    have hnb592 := NB644_689.out
                    have hnc592 := NB689_644.out
                    have hnb593 := NB644_695.out
                    have hnc593 := NB695_644.out
                    have hnb594 := NB644_701.out
                    have hnc594 := NB701_644.out
                    have hcz595 := zc2 BK644
                    have p724 : 0 ≤ (x37_4 : Int) := jD za
                    have q724 : x37_4 < (t638.length : Int) := jD za
                    obtain ⟨ad724, e724, hx724_0⟩ := Kd.at_int (jO HO_645001.out).2.2 x37_4 p724 q724
                    cases e724
                    replace p724 := eq_true p724
                    replace q724 := eq_true q724
                    go_wp2
                    repeat (go_quiet (fail); try go_wp2)
                    go_roundg kj552
                    case measure => have := HJ12.out; have := HJ326.out; have := HJ417.out; have := HK4.out; have := HJ552.out; omega
                    case rel => exact ⟨(wrap64 (x37_4 + 1)), zz, H', ⟨by have := HJ12.out; have := HJ326.out; have := HJ417.out; have := HK4.out; have := HJ552.out; omega⟩, ⟨zo HO_3⟩, ⟨zo HO_644001⟩, ⟨zo HO_645001⟩, ⟨zo HO_655001⟩, ⟨zo HO_656001⟩, ⟨zo HO_666001⟩, ⟨zo HO_667001⟩, ⟨zo HO_676001⟩, ⟨zo HO_690001⟩, ⟨zo HO_696001⟩, ⟨zo HO_702001⟩, ⟨zk BK643⟩, ⟨zk BK644⟩, ⟨zk BK654⟩, ⟨zk BK655⟩, ⟨zk BK665⟩, ⟨zk BK666⟩, ⟨zk BK675⟩, ⟨zk BK689⟩, ⟨zk BK695⟩, ⟨zk BK701⟩, ⟨zb10 HB GE643 GE644 GE654 GE655 GE665 GE666 GE675 GE689 GE695 GE701⟩⟩
                   ·rw [if_neg c561] at H
                    exact absurd H (by simp)
                  ·rw [if_neg c560] at H
                   exact absurd H (by simp)
                 ·rw [if_neg c559] at H
                  exact absurd H (by simp)
                ·rw [if_neg c558] at H
                 exact absurd H (by simp)
               ·rw [if_neg c557] at H
                exact absurd H (by simp)
              ·rw [if_neg c556] at H
               exact absurd H (by simp)
             ·replace c555 := Bool.eq_false_iff.mpr c555
              subst c555
              rw [if_neg zfalse] at H
              obtain rfl := jN H
              go_wp2
              repeat (go_quiet (fail); try go_wp2)
              go_ret
              exact ⟨ze, zb10 HB GE643 GE644 GE654 GE655 GE665 GE666 GE675 GE689 GE695 GE701⟩

/-- THE ONE PURE STATEMENT of laws_FnMoved: yours. -/
def laws_FnMoved.Pure : Prop := ∀ (l0 : List Int), l0.length ≤ maxLen → l0.length * 1 ≤ 140737488351232 → (∀ x ∈ l0, (Lit.int .u8 x).wf = true) → ∃ k, laws_FnMoved.f k l0 = some true
theorem laws_FnMoved.walk (P : laws_FnMoved.Pure) (a0 : Option Addr) (len0 cap0 : Nat) (z0 : List Int) (w : World) (w0 : (a0 = none ∧ len0 = 0 ∧ cap0 = 0 ∧ z0 = []) ∨ ∃ x, a0 = some x ∧ len0 ≤ cap0 ∧ cap0 ≤ maxLen ∧ z0.length = cap0 ∧ (∀ i, i < z0.length → w.cell? (x.add i) = some (.int .u8 (z0.getD i 0))) ∧ ∀ n ∈ z0, (Lit.int .u8 n).wf = true) (y0 : len0 * 1 ≤ 140737488351232) :
  Calls Try.prog 11 #[.slice a0 len0 cap0] w fun e w' => e = .returned (.bool true) ∧ Below w.heap.size w w' := by
 obtain ⟨l0, rfl, hr0, hm0, hw0, hc0⟩ := ReadsInt.ofRowC w0
 obtain ⟨k, h⟩ := P l0 hm0 y0 hw0
 refine (laws_FnMoved.calls k _ _ l0 true w (Kd.C_of_reads (d := (0 : Int)) (h1 := fun _ => rfl) hr0) hc0 h).mono ?_
 rintro e w' ⟨rfl, hd⟩
 exact ⟨rfl, hd⟩

end Go.Proofs.Ytdgglhfnlljmeaa.PFnMoved
