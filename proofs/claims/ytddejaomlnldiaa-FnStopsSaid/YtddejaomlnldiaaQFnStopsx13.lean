/- Functions and contracts that FnStops reaches (14 of 14). -/
import Derived.Test.YtddejaomlnldiaaQFnStopsx12
namespace Go.Proofs.Ytddejaomlnldiaa.PFnStops
open Go.RowKit Go.Proofs.YtddejaomlnldiaaW.PrintWords Go.Proofs.YtddejaomlnldiaaW.PrintLast Go.Proofs.YtddejaomlnldiaaW.PrintMore
attribute [local go_sem] max2_int min2_int max_two min_two max_three min_three max_four min_four   -- for this text's walks alone
set_option linter.unusedVariables false
set_option linter.unusedSimpArgs false

/-! ### laws_FnStops: function 9 -/
mutual
def laws_FnStops.j0 : Nat → List (S63) → Int → List (S59) → Int → Int → List Int → List Int → Int → List Int → List Int → Bool → Option (Bool)
 | 0, _, _, _, _, _, _, _, _, _, _, _ => none
 | k + 1, x3, x4, x5, x6, x7, x8, x9, x10, x13, x17, x137 => if x137 = true then (some false) else (if x10 = 0 then ((impl_LastStop.f k x3 x6 x7).bind fun bt538 => (laws_FnStops.l0 k x4 x5 x7 x8 x9 x13 x17 bt538.1 bt538.2 0)) else (some true))
def laws_FnStops.l0 : Nat → Int → List (S59) → Int → List Int → List Int → List Int → List Int → Int → Int → Int → Option (Bool)
 | 0, _, _, _, _, _, _, _, _, _, _ => none
 | k + 1, x4, x5, x7, x8, x9, x13, x17, x21, x22, x23 => if x23 < (x9.length : Int) then (if 0 ≤ x23 then ((laws_hasInt.f k x13 (rd x9 x23)).bind fun t541 => (if t541 = true then (some false) else (if 0 ≤ (rd x9 x23) then (if (rd x9 x23) < (x8.length : Int) then (if (rd x8 (rd x9 x23)) < x7 then (some false) else (if (rd x8 (rd x9 x23)) ≥ x21 then (some false) else (laws_FnStops.l0 k x4 x5 x7 x8 x9 x13 x17 x21 x22 (wrap64 (x23 + 1))))) else (none)) else (none)))) else (none)) else (laws_FnStops.l1 k x4 x5 x7 x8 x13 x17 x21 x22 0)
def laws_FnStops.l1 : Nat → Int → List (S59) → Int → List Int → List Int → List Int → Int → Int → Int → Option (Bool)
 | 0, _, _, _, _, _, _, _, _, _ => none
 | k + 1, x4, x5, x7, x8, x13, x17, x21, x22, x24 => if x24 < (x5.length : Int) then (if 0 ≤ x24 then (if 0 ≤ ((rd_T59 x5 x24).f0) then (if ((rd_T59 x5 x24).f0) < (x17.length : Int) then (if (rd x17 ((rd_T59 x5 x24).f0)) ≥ x7 then (some false) else (if ((rd_T59 x5 x24).f0) < (x8.length : Int) then (if (rd x8 ((rd_T59 x5 x24).f0)) ≥ 0 then (if (rd x8 ((rd_T59 x5 x24).f0)) ≥ x21 then ((laws_hasInt.f k x13 ((rd_T59 x5 x24).f0)).bind fun t550 => (if t550 = true then (laws_FnStops.l1 k x4 x5 x7 x8 x13 x17 x21 x22 (wrap64 (x24 + 1))) else (some false))) else (laws_FnStops.l1 k x4 x5 x7 x8 x13 x17 x21 x22 (wrap64 (x24 + 1)))) else (laws_FnStops.l1 k x4 x5 x7 x8 x13 x17 x21 x22 (wrap64 (x24 + 1)))) else (none))) else (none)) else (none)) else (none)) else (if x22 = 0 then (some ((x17.length : Int) == x4)) else (some false))
end
def laws_FnStops.f (k : Nat) (l0 : List Int) : Option (Bool) := (laws_big.f l0).bind fun t498 => (if t498 = true then (some true) else ((spec_DrawLateCues.f k l0).bind fun bt499 => ((impl_LateCues.f k bt499.1 bt499.2.1 bt499.2.2.1 bt499.2.2.2.1 bt499.2.2.2.2.1 bt499.2.2.2.2.2).bind fun bt511 => ((spec_LateCues.f k bt499.1 bt499.2.1 bt499.2.2.1 bt499.2.2.2.1 bt499.2.2.2.2.1 bt499.2.2.2.2.2).bind fun bt515 => ((impl_StoppedCues.f k bt499.1 bt499.2.1 bt499.2.2.1 bt499.2.2.2.1 bt499.2.2.2.2.1 bt499.2.2.2.2.2).bind fun bt519 => ((spec_StoppedCues.f k bt499.1 bt499.2.1 bt499.2.2.1 bt499.2.2.2.1 bt499.2.2.2.2.1 bt499.2.2.2.2.2).bind fun bt523 => ((impl_WithoutLateCues.f k bt499.1 bt499.2.1 bt499.2.2.1 bt499.2.2.2.1 bt499.2.2.2.2.1 bt499.2.2.2.2.2).bind fun bt527 => ((spec_WithoutLateCues.f k bt499.1 bt499.2.1 bt499.2.2.1 bt499.2.2.2.1 bt499.2.2.2.2.1 bt499.2.2.2.2.2).bind fun bt531 => (if bt511.2 = bt515.2 then ((laws_likeInts.f k bt511.1 bt515.1).bind fun t535 => (if t535 = true then (if bt519.2 = bt523.2 then ((laws_likeInts.f k bt519.1 bt523.1).bind fun t536 => (if t536 = true then (if bt527.2 = bt531.2 then ((laws_likeInts.f k bt527.1 bt531.1).bind fun t537 => (if t537 = true then (if bt519.2 = bt511.2 then (laws_FnStops.j0 k bt499.1 bt499.2.1 bt499.2.2.1 bt499.2.2.2.1 bt499.2.2.2.2.1 bt499.2.2.2.2.2 bt511.1 bt511.2 bt519.1 bt527.1 (bt527.2 != bt511.2)) else (laws_FnStops.j0 k bt499.1 bt499.2.1 bt499.2.2.1 bt499.2.2.2.1 bt499.2.2.2.2.1 bt499.2.2.2.2.2 bt511.1 bt511.2 bt519.1 bt527.1 true)) else (laws_FnStops.j0 k bt499.1 bt499.2.1 bt499.2.2.1 bt499.2.2.2.1 bt499.2.2.2.2.1 bt499.2.2.2.2.2 bt511.1 bt511.2 bt519.1 bt527.1 true))) else (laws_FnStops.j0 k bt499.1 bt499.2.1 bt499.2.2.1 bt499.2.2.2.1 bt499.2.2.2.2.1 bt499.2.2.2.2.2 bt511.1 bt511.2 bt519.1 bt527.1 true)) else (laws_FnStops.j0 k bt499.1 bt499.2.1 bt499.2.2.1 bt499.2.2.2.1 bt499.2.2.2.2.1 bt499.2.2.2.2.2 bt511.1 bt511.2 bt519.1 bt527.1 true))) else (laws_FnStops.j0 k bt499.1 bt499.2.1 bt499.2.2.1 bt499.2.2.2.1 bt499.2.2.2.2.1 bt499.2.2.2.2.2 bt511.1 bt511.2 bt519.1 bt527.1 true)) else (laws_FnStops.j0 k bt499.1 bt499.2.1 bt499.2.2.1 bt499.2.2.2.1 bt499.2.2.2.2.1 bt499.2.2.2.2.2 bt511.1 bt511.2 bt519.1 bt527.1 true))) else (laws_FnStops.j0 k bt499.1 bt499.2.1 bt499.2.2.1 bt499.2.2.2.1 bt499.2.2.2.2.1 bt499.2.2.2.2.2 bt511.1 bt511.2 bt519.1 bt527.1 true))))))))))
theorem laws_FnStops.mono_l : ∀ k, (∀ y0 y1 y2 y3 y4 y5 y6 y7 y8 y9 y10, LeO (laws_FnStops.j0 k y0 y1 y2 y3 y4 y5 y6 y7 y8 y9 y10) (laws_FnStops.j0 (k + 1) y0 y1 y2 y3 y4 y5 y6 y7 y8 y9 y10)) ∧ (∀ y0 y1 y2 y3 y4 y5 y6 y7 y8 y9, LeO (laws_FnStops.l0 k y0 y1 y2 y3 y4 y5 y6 y7 y8 y9) (laws_FnStops.l0 (k + 1) y0 y1 y2 y3 y4 y5 y6 y7 y8 y9)) ∧ (∀ y0 y1 y2 y3 y4 y5 y6 y7 y8, LeO (laws_FnStops.l1 k y0 y1 y2 y3 y4 y5 y6 y7 y8) (laws_FnStops.l1 (k + 1) y0 y1 y2 y3 y4 y5 y6 y7 y8))
 | 0 => ⟨fun _ _ _ _ _ _ _ _ _ _ _ r h => by simp [laws_FnStops.j0] at h, fun _ _ _ _ _ _ _ _ _ _ r h => by simp [laws_FnStops.l0] at h, fun _ _ _ _ _ _ _ _ _ r h => by simp [laws_FnStops.l1] at h⟩
 | k + 1 => by
  obtain ⟨ih0, ih1, ih2⟩ := laws_FnStops.mono_l k
  refine ⟨?_, ?_, ?_⟩
  ·as_aux_lemma =>
   intro y0 y1 y2 y3 y4 y5 y6 y7 y8 y9 y10
   unfold laws_FnStops.j0
   repeat' first
   | (with_reducible exact ih0 _ _ _ _ _ _ _ _ _ _ _)
   | (with_reducible exact ih1 _ _ _ _ _ _ _ _ _ _)
   | (with_reducible exact ih2 _ _ _ _ _ _ _ _ _)
   | (with_reducible exact impl_LastStop.mono _ _ _ _)
   | (with_reducible exact impl_LateCues.mono _ _ _ _ _ _ _)
   | (with_reducible exact impl_StoppedCues.mono _ _ _ _ _ _ _)
   | (with_reducible exact impl_WithoutLateCues.mono _ _ _ _ _ _ _)
   | (with_reducible exact laws_hasInt.mono _ _ _)
   | (with_reducible exact laws_likeInts.mono _ _ _)
   | (with_reducible exact spec_DrawLateCues.mono _ _)
   | (with_reducible exact spec_LateCues.mono _ _ _ _ _ _ _)
   | (with_reducible exact spec_StoppedCues.mono _ _ _ _ _ _ _)
   | (with_reducible exact spec_WithoutLateCues.mono _ _ _ _ _ _ _)
   | (with_reducible exact LeO.refl _)
   | (with_reducible exact LeO.none _)
   | (with_reducible refine LeO.ite ?_ ?_)
   | (with_reducible refine LeO.bind ?_ (fun _ => ?_))
   | exact ih0 _ _ _ _ _ _ _ _ _ _ _
   | exact ih1 _ _ _ _ _ _ _ _ _ _
   | exact ih2 _ _ _ _ _ _ _ _ _
   | exact impl_LastStop.mono _ _ _ _
   | exact impl_LateCues.mono _ _ _ _ _ _ _
   | exact impl_StoppedCues.mono _ _ _ _ _ _ _
   | exact impl_WithoutLateCues.mono _ _ _ _ _ _ _
   | exact laws_hasInt.mono _ _ _
   | exact laws_likeInts.mono _ _ _
   | exact spec_DrawLateCues.mono _ _
   | exact spec_LateCues.mono _ _ _ _ _ _ _
   | exact spec_StoppedCues.mono _ _ _ _ _ _ _
   | exact spec_WithoutLateCues.mono _ _ _ _ _ _ _
   | exact LeO.none _
   | refine LeO.ite ?_ ?_
   | refine LeO.bind ?_ (fun _ => ?_)
  ·as_aux_lemma =>
   intro y0 y1 y2 y3 y4 y5 y6 y7 y8 y9
   unfold laws_FnStops.l0
   repeat' first
   | (with_reducible exact ih0 _ _ _ _ _ _ _ _ _ _ _)
   | (with_reducible exact ih1 _ _ _ _ _ _ _ _ _ _)
   | (with_reducible exact ih2 _ _ _ _ _ _ _ _ _)
   | (with_reducible exact impl_LastStop.mono _ _ _ _)
   | (with_reducible exact impl_LateCues.mono _ _ _ _ _ _ _)
   | (with_reducible exact impl_StoppedCues.mono _ _ _ _ _ _ _)
   | (with_reducible exact impl_WithoutLateCues.mono _ _ _ _ _ _ _)
   | (with_reducible exact laws_hasInt.mono _ _ _)
   | (with_reducible exact laws_likeInts.mono _ _ _)
   | (with_reducible exact spec_DrawLateCues.mono _ _)
   | (with_reducible exact spec_LateCues.mono _ _ _ _ _ _ _)
   | (with_reducible exact spec_StoppedCues.mono _ _ _ _ _ _ _)
   | (with_reducible exact spec_WithoutLateCues.mono _ _ _ _ _ _ _)
   | (with_reducible exact LeO.refl _)
   | (with_reducible exact LeO.none _)
   | (with_reducible refine LeO.ite ?_ ?_)
   | (with_reducible refine LeO.bind ?_ (fun _ => ?_))
   | exact ih0 _ _ _ _ _ _ _ _ _ _ _
   | exact ih1 _ _ _ _ _ _ _ _ _ _
   | exact ih2 _ _ _ _ _ _ _ _ _
   | exact impl_LastStop.mono _ _ _ _
   | exact impl_LateCues.mono _ _ _ _ _ _ _
   | exact impl_StoppedCues.mono _ _ _ _ _ _ _
   | exact impl_WithoutLateCues.mono _ _ _ _ _ _ _
   | exact laws_hasInt.mono _ _ _
   | exact laws_likeInts.mono _ _ _
   | exact spec_DrawLateCues.mono _ _
   | exact spec_LateCues.mono _ _ _ _ _ _ _
   | exact spec_StoppedCues.mono _ _ _ _ _ _ _
   | exact spec_WithoutLateCues.mono _ _ _ _ _ _ _
   | exact LeO.none _
   | refine LeO.ite ?_ ?_
   | refine LeO.bind ?_ (fun _ => ?_)
  ·as_aux_lemma =>
   intro y0 y1 y2 y3 y4 y5 y6 y7 y8
   unfold laws_FnStops.l1
   repeat' first
   | (with_reducible exact ih0 _ _ _ _ _ _ _ _ _ _ _)
   | (with_reducible exact ih1 _ _ _ _ _ _ _ _ _ _)
   | (with_reducible exact ih2 _ _ _ _ _ _ _ _ _)
   | (with_reducible exact impl_LastStop.mono _ _ _ _)
   | (with_reducible exact impl_LateCues.mono _ _ _ _ _ _ _)
   | (with_reducible exact impl_StoppedCues.mono _ _ _ _ _ _ _)
   | (with_reducible exact impl_WithoutLateCues.mono _ _ _ _ _ _ _)
   | (with_reducible exact laws_hasInt.mono _ _ _)
   | (with_reducible exact laws_likeInts.mono _ _ _)
   | (with_reducible exact spec_DrawLateCues.mono _ _)
   | (with_reducible exact spec_LateCues.mono _ _ _ _ _ _ _)
   | (with_reducible exact spec_StoppedCues.mono _ _ _ _ _ _ _)
   | (with_reducible exact spec_WithoutLateCues.mono _ _ _ _ _ _ _)
   | (with_reducible exact LeO.refl _)
   | (with_reducible exact LeO.none _)
   | (with_reducible refine LeO.ite ?_ ?_)
   | (with_reducible refine LeO.bind ?_ (fun _ => ?_))
   | exact ih0 _ _ _ _ _ _ _ _ _ _ _
   | exact ih1 _ _ _ _ _ _ _ _ _ _
   | exact ih2 _ _ _ _ _ _ _ _ _
   | exact impl_LastStop.mono _ _ _ _
   | exact impl_LateCues.mono _ _ _ _ _ _ _
   | exact impl_StoppedCues.mono _ _ _ _ _ _ _
   | exact impl_WithoutLateCues.mono _ _ _ _ _ _ _
   | exact laws_hasInt.mono _ _ _
   | exact laws_likeInts.mono _ _ _
   | exact spec_DrawLateCues.mono _ _
   | exact spec_LateCues.mono _ _ _ _ _ _ _
   | exact spec_StoppedCues.mono _ _ _ _ _ _ _
   | exact spec_WithoutLateCues.mono _ _ _ _ _ _ _
   | exact LeO.none _
   | refine LeO.ite ?_ ?_
   | refine LeO.bind ?_ (fun _ => ?_)
theorem laws_FnStops.mono : ∀ a0 k, LeO (laws_FnStops.f k a0) (laws_FnStops.f (k + 1) a0) := by
 intro a0 k
 obtain ⟨ih0, ih1, ih2⟩ := laws_FnStops.mono_l k
 unfold laws_FnStops.f
 repeat' first
   | (with_reducible exact ih0 _ _ _ _ _ _ _ _ _ _ _)
   | (with_reducible exact ih1 _ _ _ _ _ _ _ _ _ _)
   | (with_reducible exact ih2 _ _ _ _ _ _ _ _ _)
   | (with_reducible exact impl_LastStop.mono _ _ _ _)
   | (with_reducible exact impl_LateCues.mono _ _ _ _ _ _ _)
   | (with_reducible exact impl_StoppedCues.mono _ _ _ _ _ _ _)
   | (with_reducible exact impl_WithoutLateCues.mono _ _ _ _ _ _ _)
   | (with_reducible exact laws_hasInt.mono _ _ _)
   | (with_reducible exact laws_likeInts.mono _ _ _)
   | (with_reducible exact spec_DrawLateCues.mono _ _)
   | (with_reducible exact spec_LateCues.mono _ _ _ _ _ _ _)
   | (with_reducible exact spec_StoppedCues.mono _ _ _ _ _ _ _)
   | (with_reducible exact spec_WithoutLateCues.mono _ _ _ _ _ _ _)
   | (with_reducible exact LeO.refl _)
   | (with_reducible exact LeO.none _)
   | (with_reducible refine LeO.ite ?_ ?_)
   | (with_reducible refine LeO.bind ?_ (fun _ => ?_))
   | exact ih0 _ _ _ _ _ _ _ _ _ _ _
   | exact ih1 _ _ _ _ _ _ _ _ _ _
   | exact ih2 _ _ _ _ _ _ _ _ _
   | exact impl_LastStop.mono _ _ _ _
   | exact impl_LateCues.mono _ _ _ _ _ _ _
   | exact impl_StoppedCues.mono _ _ _ _ _ _ _
   | exact impl_WithoutLateCues.mono _ _ _ _ _ _ _
   | exact laws_hasInt.mono _ _ _
   | exact laws_likeInts.mono _ _ _
   | exact spec_DrawLateCues.mono _ _
   | exact spec_LateCues.mono _ _ _ _ _ _ _
   | exact spec_StoppedCues.mono _ _ _ _ _ _ _
   | exact spec_WithoutLateCues.mono _ _ _ _ _ _ _
   | exact LeO.none _
   | refine LeO.ite ?_ ?_
   | refine LeO.bind ?_ (fun _ => ?_)
set_option maxHeartbeats 8000000 in
set_option maxRecDepth 100000 in
theorem laws_FnStops.calls (k : Nat) (A0 : Option Addr) (c0 : Nat) (l0 : List Int) (r : Bool) (w : World) (hr0 : Kd.C (Kd.int .u8) w A0 l0.length l0) (hc0 : l0.length ≤ c0) (h : laws_FnStops.f k l0 = some r) :
  Calls Try.prog 9 #[.slice A0 l0.length c0] w fun e w' => e = .returned (.bool r) ∧ Below w.heap.size w w' := by
 have HR0 := jA hr0
 have HC0 := jA hc0
 clear hr0 hc0
 have HB := jA (Below.refl w.heap.size w)
 have H : ((laws_big.f l0).bind fun t498 => (if t498 = true then (some true) else ((spec_DrawLateCues.f k l0).bind fun bt499 => ((impl_LateCues.f k bt499.1 bt499.2.1 bt499.2.2.1 bt499.2.2.2.1 bt499.2.2.2.2.1 bt499.2.2.2.2.2).bind fun bt511 => ((spec_LateCues.f k bt499.1 bt499.2.1 bt499.2.2.1 bt499.2.2.2.1 bt499.2.2.2.2.1 bt499.2.2.2.2.2).bind fun bt515 => ((impl_StoppedCues.f k bt499.1 bt499.2.1 bt499.2.2.1 bt499.2.2.2.1 bt499.2.2.2.2.1 bt499.2.2.2.2.2).bind fun bt519 => ((spec_StoppedCues.f k bt499.1 bt499.2.1 bt499.2.2.1 bt499.2.2.2.1 bt499.2.2.2.2.1 bt499.2.2.2.2.2).bind fun bt523 => ((impl_WithoutLateCues.f k bt499.1 bt499.2.1 bt499.2.2.1 bt499.2.2.2.1 bt499.2.2.2.2.1 bt499.2.2.2.2.2).bind fun bt527 => ((spec_WithoutLateCues.f k bt499.1 bt499.2.1 bt499.2.2.1 bt499.2.2.2.1 bt499.2.2.2.2.1 bt499.2.2.2.2.2).bind fun bt531 => (if bt511.2 = bt515.2 then ((laws_likeInts.f k bt511.1 bt515.1).bind fun t535 => (if t535 = true then (if bt519.2 = bt523.2 then ((laws_likeInts.f k bt519.1 bt523.1).bind fun t536 => (if t536 = true then (if bt527.2 = bt531.2 then ((laws_likeInts.f k bt527.1 bt531.1).bind fun t537 => (if t537 = true then (if bt519.2 = bt511.2 then (laws_FnStops.j0 k bt499.1 bt499.2.1 bt499.2.2.1 bt499.2.2.2.1 bt499.2.2.2.2.1 bt499.2.2.2.2.2 bt511.1 bt511.2 bt519.1 bt527.1 (bt527.2 != bt511.2)) else (laws_FnStops.j0 k bt499.1 bt499.2.1 bt499.2.2.1 bt499.2.2.2.1 bt499.2.2.2.2.1 bt499.2.2.2.2.2 bt511.1 bt511.2 bt519.1 bt527.1 true)) else (laws_FnStops.j0 k bt499.1 bt499.2.1 bt499.2.2.1 bt499.2.2.2.1 bt499.2.2.2.2.1 bt499.2.2.2.2.2 bt511.1 bt511.2 bt519.1 bt527.1 true))) else (laws_FnStops.j0 k bt499.1 bt499.2.1 bt499.2.2.1 bt499.2.2.2.1 bt499.2.2.2.2.1 bt499.2.2.2.2.2 bt511.1 bt511.2 bt519.1 bt527.1 true)) else (laws_FnStops.j0 k bt499.1 bt499.2.1 bt499.2.2.1 bt499.2.2.2.1 bt499.2.2.2.2.1 bt499.2.2.2.2.2 bt511.1 bt511.2 bt519.1 bt527.1 true))) else (laws_FnStops.j0 k bt499.1 bt499.2.1 bt499.2.2.1 bt499.2.2.2.1 bt499.2.2.2.2.1 bt499.2.2.2.2.2 bt511.1 bt511.2 bt519.1 bt527.1 true)) else (laws_FnStops.j0 k bt499.1 bt499.2.1 bt499.2.2.1 bt499.2.2.2.1 bt499.2.2.2.2.1 bt499.2.2.2.2.2 bt511.1 bt511.2 bt519.1 bt527.1 true))) else (laws_FnStops.j0 k bt499.1 bt499.2.1 bt499.2.2.1 bt499.2.2.2.1 bt499.2.2.2.2.1 bt499.2.2.2.2.2 bt511.1 bt511.2 bt519.1 bt527.1 true))))))))))) = some r := h
 clear h
 replace H := jD.mp H
 obtain ⟨t498, A20, H⟩ := H
 replace H : (if t498 = true then (some true) else ((spec_DrawLateCues.f k l0).bind fun bt499 => ((impl_LateCues.f k bt499.1 bt499.2.1 bt499.2.2.1 bt499.2.2.2.1 bt499.2.2.2.2.1 bt499.2.2.2.2.2).bind fun bt511 => ((spec_LateCues.f k bt499.1 bt499.2.1 bt499.2.2.1 bt499.2.2.2.1 bt499.2.2.2.2.1 bt499.2.2.2.2.2).bind fun bt515 => ((impl_StoppedCues.f k bt499.1 bt499.2.1 bt499.2.2.1 bt499.2.2.2.1 bt499.2.2.2.2.1 bt499.2.2.2.2.2).bind fun bt519 => ((spec_StoppedCues.f k bt499.1 bt499.2.1 bt499.2.2.1 bt499.2.2.2.1 bt499.2.2.2.2.1 bt499.2.2.2.2.2).bind fun bt523 => ((impl_WithoutLateCues.f k bt499.1 bt499.2.1 bt499.2.2.1 bt499.2.2.2.1 bt499.2.2.2.2.1 bt499.2.2.2.2.2).bind fun bt527 => ((spec_WithoutLateCues.f k bt499.1 bt499.2.1 bt499.2.2.1 bt499.2.2.2.1 bt499.2.2.2.2.1 bt499.2.2.2.2.2).bind fun bt531 => (if bt511.2 = bt515.2 then ((laws_likeInts.f k bt511.1 bt515.1).bind fun t535 => (if t535 = true then (if bt519.2 = bt523.2 then ((laws_likeInts.f k bt519.1 bt523.1).bind fun t536 => (if t536 = true then (if bt527.2 = bt531.2 then ((laws_likeInts.f k bt527.1 bt531.1).bind fun t537 => (if t537 = true then (if bt519.2 = bt511.2 then (laws_FnStops.j0 k bt499.1 bt499.2.1 bt499.2.2.1 bt499.2.2.2.1 bt499.2.2.2.2.1 bt499.2.2.2.2.2 bt511.1 bt511.2 bt519.1 bt527.1 (bt527.2 != bt511.2)) else (laws_FnStops.j0 k bt499.1 bt499.2.1 bt499.2.2.1 bt499.2.2.2.1 bt499.2.2.2.2.1 bt499.2.2.2.2.2 bt511.1 bt511.2 bt519.1 bt527.1 true)) else (laws_FnStops.j0 k bt499.1 bt499.2.1 bt499.2.2.1 bt499.2.2.2.1 bt499.2.2.2.2.1 bt499.2.2.2.2.2 bt511.1 bt511.2 bt519.1 bt527.1 true))) else (laws_FnStops.j0 k bt499.1 bt499.2.1 bt499.2.2.1 bt499.2.2.2.1 bt499.2.2.2.2.1 bt499.2.2.2.2.2 bt511.1 bt511.2 bt519.1 bt527.1 true)) else (laws_FnStops.j0 k bt499.1 bt499.2.1 bt499.2.2.1 bt499.2.2.2.1 bt499.2.2.2.2.1 bt499.2.2.2.2.2 bt511.1 bt511.2 bt519.1 bt527.1 true))) else (laws_FnStops.j0 k bt499.1 bt499.2.1 bt499.2.2.1 bt499.2.2.2.1 bt499.2.2.2.2.1 bt499.2.2.2.2.2 bt511.1 bt511.2 bt519.1 bt527.1 true)) else (laws_FnStops.j0 k bt499.1 bt499.2.1 bt499.2.2.1 bt499.2.2.2.1 bt499.2.2.2.2.1 bt499.2.2.2.2.2 bt511.1 bt511.2 bt519.1 bt527.1 true))) else (laws_FnStops.j0 k bt499.1 bt499.2.1 bt499.2.2.1 bt499.2.2.2.1 bt499.2.2.2.2.1 bt499.2.2.2.2.2 bt511.1 bt511.2 bt519.1 bt527.1 true)))))))))) = some r := H
 have A2 := jA A20
 clear A20
 by_cases c3 : t498 = true
 ·subst c3
  have H1 : (some true) = some r := by rw [if_pos rfl] at H; exact H
  clear H
  have H := H1
  clear H1
  obtain rfl := jW H
  go_enter Try.func9, Try.ntmps9
  go_wp2_with (first | ((with_reducible refine jN (f := 24) rfl ?_); refine goesL_ (some 27) rfl rfl Try.func24 zr rfl #[.slice A0 l0.length c0] rfl zm ?_; (with_reducible refine (laws_big.calls _ _ l0 true _ ?side1 ?side2 A2.out).mono ?_); (case side1 => repeat (first | exact HR0.out | (with_reducible refine jR ?_ _) | (with_reducible refine jQ ?_ _) | (with_reducible refine jS ?_))); (case side2 => exact HC0.out); rintro e w' ⟨rfl, ⟨nd, rfl⟩⟩; refine ⟨_, rfl, ?_⟩))
  go_ret
  exact ⟨by first | rfl | (simp [errW_none, errW_some] <;> rfl) | (simp [*, errW_none, errW_some] <;> rfl), zb0 HB⟩
 ·as_aux_lemma =>
  replace c3 := Bool.eq_false_iff.mpr c3
  subst c3
  have H1 : ((spec_DrawLateCues.f k l0).bind fun bt499 => ((impl_LateCues.f k bt499.1 bt499.2.1 bt499.2.2.1 bt499.2.2.2.1 bt499.2.2.2.2.1 bt499.2.2.2.2.2).bind fun bt511 => ((spec_LateCues.f k bt499.1 bt499.2.1 bt499.2.2.1 bt499.2.2.2.1 bt499.2.2.2.2.1 bt499.2.2.2.2.2).bind fun bt515 => ((impl_StoppedCues.f k bt499.1 bt499.2.1 bt499.2.2.1 bt499.2.2.2.1 bt499.2.2.2.2.1 bt499.2.2.2.2.2).bind fun bt519 => ((spec_StoppedCues.f k bt499.1 bt499.2.1 bt499.2.2.1 bt499.2.2.2.1 bt499.2.2.2.2.1 bt499.2.2.2.2.2).bind fun bt523 => ((impl_WithoutLateCues.f k bt499.1 bt499.2.1 bt499.2.2.1 bt499.2.2.2.1 bt499.2.2.2.2.1 bt499.2.2.2.2.2).bind fun bt527 => ((spec_WithoutLateCues.f k bt499.1 bt499.2.1 bt499.2.2.1 bt499.2.2.2.1 bt499.2.2.2.2.1 bt499.2.2.2.2.2).bind fun bt531 => (if bt511.2 = bt515.2 then ((laws_likeInts.f k bt511.1 bt515.1).bind fun t535 => (if t535 = true then (if bt519.2 = bt523.2 then ((laws_likeInts.f k bt519.1 bt523.1).bind fun t536 => (if t536 = true then (if bt527.2 = bt531.2 then ((laws_likeInts.f k bt527.1 bt531.1).bind fun t537 => (if t537 = true then (if bt519.2 = bt511.2 then (laws_FnStops.j0 k bt499.1 bt499.2.1 bt499.2.2.1 bt499.2.2.2.1 bt499.2.2.2.2.1 bt499.2.2.2.2.2 bt511.1 bt511.2 bt519.1 bt527.1 (bt527.2 != bt511.2)) else (laws_FnStops.j0 k bt499.1 bt499.2.1 bt499.2.2.1 bt499.2.2.2.1 bt499.2.2.2.2.1 bt499.2.2.2.2.2 bt511.1 bt511.2 bt519.1 bt527.1 true)) else (laws_FnStops.j0 k bt499.1 bt499.2.1 bt499.2.2.1 bt499.2.2.2.1 bt499.2.2.2.2.1 bt499.2.2.2.2.2 bt511.1 bt511.2 bt519.1 bt527.1 true))) else (laws_FnStops.j0 k bt499.1 bt499.2.1 bt499.2.2.1 bt499.2.2.2.1 bt499.2.2.2.2.1 bt499.2.2.2.2.2 bt511.1 bt511.2 bt519.1 bt527.1 true)) else (laws_FnStops.j0 k bt499.1 bt499.2.1 bt499.2.2.1 bt499.2.2.2.1 bt499.2.2.2.2.1 bt499.2.2.2.2.2 bt511.1 bt511.2 bt519.1 bt527.1 true))) else (laws_FnStops.j0 k bt499.1 bt499.2.1 bt499.2.2.1 bt499.2.2.2.1 bt499.2.2.2.2.1 bt499.2.2.2.2.2 bt511.1 bt511.2 bt519.1 bt527.1 true)) else (laws_FnStops.j0 k bt499.1 bt499.2.1 bt499.2.2.1 bt499.2.2.2.1 bt499.2.2.2.2.1 bt499.2.2.2.2.2 bt511.1 bt511.2 bt519.1 bt527.1 true))) else (laws_FnStops.j0 k bt499.1 bt499.2.1 bt499.2.2.1 bt499.2.2.2.1 bt499.2.2.2.2.1 bt499.2.2.2.2.2 bt511.1 bt511.2 bt519.1 bt527.1 true))))))))) = some r := by rw [if_neg (show ¬ (false = true) by decide)] at H; exact H
  clear H
  have H := H1
  clear H1
  replace H := jD.mp H
  obtain ⟨⟨t499, t500, t501, t502, t503, t504⟩, A40, H⟩ := H
  replace H : ((impl_LateCues.f k t499 t500 t501 t502 t503 t504).bind fun bt511 => ((spec_LateCues.f k t499 t500 t501 t502 t503 t504).bind fun bt515 => ((impl_StoppedCues.f k t499 t500 t501 t502 t503 t504).bind fun bt519 => ((spec_StoppedCues.f k t499 t500 t501 t502 t503 t504).bind fun bt523 => ((impl_WithoutLateCues.f k t499 t500 t501 t502 t503 t504).bind fun bt527 => ((spec_WithoutLateCues.f k t499 t500 t501 t502 t503 t504).bind fun bt531 => (if bt511.2 = bt515.2 then ((laws_likeInts.f k bt511.1 bt515.1).bind fun t535 => (if t535 = true then (if bt519.2 = bt523.2 then ((laws_likeInts.f k bt519.1 bt523.1).bind fun t536 => (if t536 = true then (if bt527.2 = bt531.2 then ((laws_likeInts.f k bt527.1 bt531.1).bind fun t537 => (if t537 = true then (if bt519.2 = bt511.2 then (laws_FnStops.j0 k t499 t500 t501 t502 t503 t504 bt511.1 bt511.2 bt519.1 bt527.1 (bt527.2 != bt511.2)) else (laws_FnStops.j0 k t499 t500 t501 t502 t503 t504 bt511.1 bt511.2 bt519.1 bt527.1 true)) else (laws_FnStops.j0 k t499 t500 t501 t502 t503 t504 bt511.1 bt511.2 bt519.1 bt527.1 true))) else (laws_FnStops.j0 k t499 t500 t501 t502 t503 t504 bt511.1 bt511.2 bt519.1 bt527.1 true)) else (laws_FnStops.j0 k t499 t500 t501 t502 t503 t504 bt511.1 bt511.2 bt519.1 bt527.1 true))) else (laws_FnStops.j0 k t499 t500 t501 t502 t503 t504 bt511.1 bt511.2 bt519.1 bt527.1 true)) else (laws_FnStops.j0 k t499 t500 t501 t502 t503 t504 bt511.1 bt511.2 bt519.1 bt527.1 true))) else (laws_FnStops.j0 k t499 t500 t501 t502 t503 t504 bt511.1 bt511.2 bt519.1 bt527.1 true)))))))) = some r := H
  have A4 := jA A40
  clear A40
  replace H := jD.mp H
  obtain ⟨⟨t511, t512⟩, A50, H⟩ := H
  replace H : ((spec_LateCues.f k t499 t500 t501 t502 t503 t504).bind fun bt515 => ((impl_StoppedCues.f k t499 t500 t501 t502 t503 t504).bind fun bt519 => ((spec_StoppedCues.f k t499 t500 t501 t502 t503 t504).bind fun bt523 => ((impl_WithoutLateCues.f k t499 t500 t501 t502 t503 t504).bind fun bt527 => ((spec_WithoutLateCues.f k t499 t500 t501 t502 t503 t504).bind fun bt531 => (if t512 = bt515.2 then ((laws_likeInts.f k t511 bt515.1).bind fun t535 => (if t535 = true then (if bt519.2 = bt523.2 then ((laws_likeInts.f k bt519.1 bt523.1).bind fun t536 => (if t536 = true then (if bt527.2 = bt531.2 then ((laws_likeInts.f k bt527.1 bt531.1).bind fun t537 => (if t537 = true then (if bt519.2 = t512 then (laws_FnStops.j0 k t499 t500 t501 t502 t503 t504 t511 t512 bt519.1 bt527.1 (bt527.2 != t512)) else (laws_FnStops.j0 k t499 t500 t501 t502 t503 t504 t511 t512 bt519.1 bt527.1 true)) else (laws_FnStops.j0 k t499 t500 t501 t502 t503 t504 t511 t512 bt519.1 bt527.1 true))) else (laws_FnStops.j0 k t499 t500 t501 t502 t503 t504 t511 t512 bt519.1 bt527.1 true)) else (laws_FnStops.j0 k t499 t500 t501 t502 t503 t504 t511 t512 bt519.1 bt527.1 true))) else (laws_FnStops.j0 k t499 t500 t501 t502 t503 t504 t511 t512 bt519.1 bt527.1 true)) else (laws_FnStops.j0 k t499 t500 t501 t502 t503 t504 t511 t512 bt519.1 bt527.1 true))) else (laws_FnStops.j0 k t499 t500 t501 t502 t503 t504 t511 t512 bt519.1 bt527.1 true))))))) = some r := H
  have A5 := jA A50
  clear A50
  replace H := jD.mp H
  obtain ⟨⟨t515, t516⟩, A60, H⟩ := H
  replace H : ((impl_StoppedCues.f k t499 t500 t501 t502 t503 t504).bind fun bt519 => ((spec_StoppedCues.f k t499 t500 t501 t502 t503 t504).bind fun bt523 => ((impl_WithoutLateCues.f k t499 t500 t501 t502 t503 t504).bind fun bt527 => ((spec_WithoutLateCues.f k t499 t500 t501 t502 t503 t504).bind fun bt531 => (if t512 = t516 then ((laws_likeInts.f k t511 t515).bind fun t535 => (if t535 = true then (if bt519.2 = bt523.2 then ((laws_likeInts.f k bt519.1 bt523.1).bind fun t536 => (if t536 = true then (if bt527.2 = bt531.2 then ((laws_likeInts.f k bt527.1 bt531.1).bind fun t537 => (if t537 = true then (if bt519.2 = t512 then (laws_FnStops.j0 k t499 t500 t501 t502 t503 t504 t511 t512 bt519.1 bt527.1 (bt527.2 != t512)) else (laws_FnStops.j0 k t499 t500 t501 t502 t503 t504 t511 t512 bt519.1 bt527.1 true)) else (laws_FnStops.j0 k t499 t500 t501 t502 t503 t504 t511 t512 bt519.1 bt527.1 true))) else (laws_FnStops.j0 k t499 t500 t501 t502 t503 t504 t511 t512 bt519.1 bt527.1 true)) else (laws_FnStops.j0 k t499 t500 t501 t502 t503 t504 t511 t512 bt519.1 bt527.1 true))) else (laws_FnStops.j0 k t499 t500 t501 t502 t503 t504 t511 t512 bt519.1 bt527.1 true)) else (laws_FnStops.j0 k t499 t500 t501 t502 t503 t504 t511 t512 bt519.1 bt527.1 true))) else (laws_FnStops.j0 k t499 t500 t501 t502 t503 t504 t511 t512 bt519.1 bt527.1 true)))))) = some r := H
  have A6 := jA A60
  clear A60
  replace H := jD.mp H
  obtain ⟨⟨t519, t520⟩, A70, H⟩ := H
  replace H : ((spec_StoppedCues.f k t499 t500 t501 t502 t503 t504).bind fun bt523 => ((impl_WithoutLateCues.f k t499 t500 t501 t502 t503 t504).bind fun bt527 => ((spec_WithoutLateCues.f k t499 t500 t501 t502 t503 t504).bind fun bt531 => (if t512 = t516 then ((laws_likeInts.f k t511 t515).bind fun t535 => (if t535 = true then (if t520 = bt523.2 then ((laws_likeInts.f k t519 bt523.1).bind fun t536 => (if t536 = true then (if bt527.2 = bt531.2 then ((laws_likeInts.f k bt527.1 bt531.1).bind fun t537 => (if t537 = true then (if t520 = t512 then (laws_FnStops.j0 k t499 t500 t501 t502 t503 t504 t511 t512 t519 bt527.1 (bt527.2 != t512)) else (laws_FnStops.j0 k t499 t500 t501 t502 t503 t504 t511 t512 t519 bt527.1 true)) else (laws_FnStops.j0 k t499 t500 t501 t502 t503 t504 t511 t512 t519 bt527.1 true))) else (laws_FnStops.j0 k t499 t500 t501 t502 t503 t504 t511 t512 t519 bt527.1 true)) else (laws_FnStops.j0 k t499 t500 t501 t502 t503 t504 t511 t512 t519 bt527.1 true))) else (laws_FnStops.j0 k t499 t500 t501 t502 t503 t504 t511 t512 t519 bt527.1 true)) else (laws_FnStops.j0 k t499 t500 t501 t502 t503 t504 t511 t512 t519 bt527.1 true))) else (laws_FnStops.j0 k t499 t500 t501 t502 t503 t504 t511 t512 t519 bt527.1 true))))) = some r := H
  have A7 := jA A70
  clear A70
  replace H := jD.mp H
  obtain ⟨⟨t523, t524⟩, A80, H⟩ := H
  replace H : ((impl_WithoutLateCues.f k t499 t500 t501 t502 t503 t504).bind fun bt527 => ((spec_WithoutLateCues.f k t499 t500 t501 t502 t503 t504).bind fun bt531 => (if t512 = t516 then ((laws_likeInts.f k t511 t515).bind fun t535 => (if t535 = true then (if t520 = t524 then ((laws_likeInts.f k t519 t523).bind fun t536 => (if t536 = true then (if bt527.2 = bt531.2 then ((laws_likeInts.f k bt527.1 bt531.1).bind fun t537 => (if t537 = true then (if t520 = t512 then (laws_FnStops.j0 k t499 t500 t501 t502 t503 t504 t511 t512 t519 bt527.1 (bt527.2 != t512)) else (laws_FnStops.j0 k t499 t500 t501 t502 t503 t504 t511 t512 t519 bt527.1 true)) else (laws_FnStops.j0 k t499 t500 t501 t502 t503 t504 t511 t512 t519 bt527.1 true))) else (laws_FnStops.j0 k t499 t500 t501 t502 t503 t504 t511 t512 t519 bt527.1 true)) else (laws_FnStops.j0 k t499 t500 t501 t502 t503 t504 t511 t512 t519 bt527.1 true))) else (laws_FnStops.j0 k t499 t500 t501 t502 t503 t504 t511 t512 t519 bt527.1 true)) else (laws_FnStops.j0 k t499 t500 t501 t502 t503 t504 t511 t512 t519 bt527.1 true))) else (laws_FnStops.j0 k t499 t500 t501 t502 t503 t504 t511 t512 t519 bt527.1 true)))) = some r := H
  have A8 := jA A80
  clear A80
  replace H := jD.mp H
  obtain ⟨⟨t527, t528⟩, A90, H⟩ := H
  replace H : ((spec_WithoutLateCues.f k t499 t500 t501 t502 t503 t504).bind fun bt531 => (if t512 = t516 then ((laws_likeInts.f k t511 t515).bind fun t535 => (if t535 = true then (if t520 = t524 then ((laws_likeInts.f k t519 t523).bind fun t536 => (if t536 = true then (if t528 = bt531.2 then ((laws_likeInts.f k t527 bt531.1).bind fun t537 => (if t537 = true then (if t520 = t512 then (laws_FnStops.j0 k t499 t500 t501 t502 t503 t504 t511 t512 t519 t527 (t528 != t512)) else (laws_FnStops.j0 k t499 t500 t501 t502 t503 t504 t511 t512 t519 t527 true)) else (laws_FnStops.j0 k t499 t500 t501 t502 t503 t504 t511 t512 t519 t527 true))) else (laws_FnStops.j0 k t499 t500 t501 t502 t503 t504 t511 t512 t519 t527 true)) else (laws_FnStops.j0 k t499 t500 t501 t502 t503 t504 t511 t512 t519 t527 true))) else (laws_FnStops.j0 k t499 t500 t501 t502 t503 t504 t511 t512 t519 t527 true)) else (laws_FnStops.j0 k t499 t500 t501 t502 t503 t504 t511 t512 t519 t527 true))) else (laws_FnStops.j0 k t499 t500 t501 t502 t503 t504 t511 t512 t519 t527 true))) = some r := H
  have A9 := jA A90
  clear A90
  replace H := jD.mp H
  obtain ⟨⟨t531, t532⟩, A100, H⟩ := H
  replace H : (if t512 = t516 then ((laws_likeInts.f k t511 t515).bind fun t535 => (if t535 = true then (if t520 = t524 then ((laws_likeInts.f k t519 t523).bind fun t536 => (if t536 = true then (if t528 = t532 then ((laws_likeInts.f k t527 t531).bind fun t537 => (if t537 = true then (if t520 = t512 then (laws_FnStops.j0 k t499 t500 t501 t502 t503 t504 t511 t512 t519 t527 (t528 != t512)) else (laws_FnStops.j0 k t499 t500 t501 t502 t503 t504 t511 t512 t519 t527 true)) else (laws_FnStops.j0 k t499 t500 t501 t502 t503 t504 t511 t512 t519 t527 true))) else (laws_FnStops.j0 k t499 t500 t501 t502 t503 t504 t511 t512 t519 t527 true)) else (laws_FnStops.j0 k t499 t500 t501 t502 t503 t504 t511 t512 t519 t527 true))) else (laws_FnStops.j0 k t499 t500 t501 t502 t503 t504 t511 t512 t519 t527 true)) else (laws_FnStops.j0 k t499 t500 t501 t502 t503 t504 t511 t512 t519 t527 true))) else (laws_FnStops.j0 k t499 t500 t501 t502 t503 t504 t511 t512 t519 t527 true)) = some r := H
  have A10 := jA A100
  clear A100
  have HC11 := jA H
  clear H
  go_enter Try.func9, Try.ntmps9
  go_upto_region 10 with (first | ((with_reducible refine jN (f := 24) rfl ?_); refine goesL_ (some 27) rfl rfl Try.func24 zr rfl #[.slice A0 l0.length c0] rfl zm ?_; (with_reducible refine (laws_big.calls _ _ l0 false _ ?side1 ?side2 A2.out).mono ?_); (case side1 => repeat (first | exact HR0.out | (with_reducible refine jR ?_ _) | (with_reducible refine jQ ?_ _) | (with_reducible refine jS ?_))); (case side2 => exact HC0.out); rintro e w' ⟨rfl, ⟨nd, rfl⟩⟩; refine ⟨_, rfl, ?_⟩) | ((with_reducible refine jN (f := 46) rfl ?_); refine goesL_ (some 30) rfl rfl Try.func46 zr rfl #[.slice A0 l0.length c0] rfl zm ?_; (with_reducible refine (spec_DrawLateCues.calls k _ _ l0 t499 t500 t501 t502 t503 t504 _ ?side1 ?side2 A4.out).mono ?_); (case side1 => repeat (first | exact HR0.out | (with_reducible refine jR ?_ _) | (with_reducible refine jQ ?_ _) | (with_reducible refine jS ?_))); (case side2 => exact HC0.out); rintro e w12 ⟨v505, v507, v509, rfl, ho0, ho1, ho2, hb⟩; refine ⟨_, rfl, ?_⟩; have n0_ := jA (jf ho0 (jY (zb0 HB))); have n1_ := jA (jf ho1 (jY (zb0 HB))); have n2_ := jA (jf ho2 (jY (zb0 HB))); have n3_ := jA (jV (zb0 HB) hb); clear HB; have HO506 := n0_; have HO508 := n1_; have HO510 := n2_; have HB := n3_; clear n0_ n1_ n2_ n3_; (try clear hb); (try clear hb2); (try clear hk); (try clear hi); (try clear ho0); (try clear ho1); (try clear ho2); obtain ⟨Ao13, co13, eo13⟩ := Kd.R_slice HO506.out; subst eo13; obtain ⟨Ao14, co14, eo14⟩ := Kd.R_slice HO508.out; subst eo14; obtain ⟨Ao15, co15, eo15⟩ := Kd.R_slice HO510.out; subst eo15) | ((with_reducible refine jN (f := 40) rfl ?_); refine goesL_ (some 44) rfl rfl Try.func40 zr rfl #[.slice Ao13 t499.length co13, .int .i64 t500, .slice Ao14 t501.length co14, .int .i64 t502, .int .i64 t503, .slice Ao15 t504.length co15] rfl zm ?_; (with_reducible refine (impl_LateCues.calls k _ _ t499 t500 _ _ t501 t502 t503 _ _ t504 t511 t512 _ ?side1 ?side2 ?side3 ?side4 ?side5 ?side6 A5.out).mono ?_); (case side1 => repeat (first | exact (jJ HO506.out).2.2 | (with_reducible refine jR ?_ _) | (with_reducible refine jQ ?_ _) | (with_reducible refine jS ?_))); (case side2 => exact (jJ HO506.out).2.1); (case side3 => repeat (first | exact (jJ HO508.out).2.2 | (with_reducible refine jR ?_ _) | (with_reducible refine jQ ?_ _) | (with_reducible refine jS ?_))); (case side4 => exact (jJ HO508.out).2.1); (case side5 => repeat (first | exact (jJ HO510.out).2.2 | (with_reducible refine jR ?_ _) | (with_reducible refine jQ ?_ _) | (with_reducible refine jS ?_))); (case side6 => exact (jJ HO510.out).2.1); rintro e w16 ⟨v513, rfl, ho0, hb⟩; refine ⟨_, rfl, ?_⟩; have n0_ := jA (jZ (zo HO506) hb); have n1_ := jA (jZ (zo HO508) hb); have n2_ := jA (Kd.R_elder' (zo HO510) (Kd.R_base ho0) hb); have n3_ := jA (jf (Kd.R_new' ho0 (Kd.R_lt (zo HO510))) (jY (zb0 HB))); have n4_ := jA (jV (zb0 HB) hb); clear HO506; clear HO508; clear HO510; clear HB; have HO506 := n0_; have HO508 := n1_; have HO510 := n2_; have HO514 := n3_; have HB := n4_; clear n0_ n1_ n2_ n3_ n4_; (try clear hb); (try clear hb2); (try clear hk); (try clear hi); (try clear ho0)) | ((with_reducible refine jN (f := 37) rfl ?_); refine goesL_ (some 54) rfl rfl Try.func37 zr rfl #[.slice Ao13 t499.length co13, .int .i64 t500, .slice Ao14 t501.length co14, .int .i64 t502, .int .i64 t503, .slice Ao15 t504.length co15] rfl zm ?_; (with_reducible refine (spec_LateCues.calls k _ _ t499 t500 _ _ t501 t502 t503 _ _ t504 t515 t516 _ ?side1 ?side2 ?side3 ?side4 ?side5 ?side6 A6.out).mono ?_); (case side1 => repeat (first | exact (jJ HO506.out).2.2 | (with_reducible refine jR ?_ _) | (with_reducible refine jQ ?_ _) | (with_reducible refine jS ?_))); (case side2 => exact (jJ HO506.out).2.1); (case side3 => repeat (first | exact (jJ HO508.out).2.2 | (with_reducible refine jR ?_ _) | (with_reducible refine jQ ?_ _) | (with_reducible refine jS ?_))); (case side4 => exact (jJ HO508.out).2.1); (case side5 => repeat (first | exact (jJ HO510.out).2.2 | (with_reducible refine jR ?_ _) | (with_reducible refine jQ ?_ _) | (with_reducible refine jS ?_))); (case side6 => exact (jJ HO510.out).2.1); rintro e w17 ⟨v517, rfl, ho0, hb⟩; refine ⟨_, rfl, ?_⟩; have n0_ := jA (jZ (zo HO506) hb); have n1_ := jA (jZ (zo HO508) hb); have n2_ := jA (Kd.R_elder' (zo HO510) (Kd.R_base ho0) hb); have n3_ := jA (Kd.R_elder' (zo HO514) (Kd.R_base ho0) hb); have n4_ := jA (jf (Kd.R_new' (Kd.R_new' ho0 (Kd.R_lt (zo HO510))) (Kd.R_lt (zo HO514))) (jY (zb0 HB))); have n5_ := jA (jV (zb0 HB) hb); clear HO506; clear HO508; clear HO510; clear HO514; clear HB; have HO506 := n0_; have HO508 := n1_; have HO510 := n2_; have HO514 := n3_; have HO518 := n4_; have HB := n5_; clear n0_ n1_ n2_ n3_ n4_ n5_; (try clear hb); (try clear hb2); (try clear hk); (try clear hi); (try clear ho0)) | ((with_reducible refine jN (f := 45) rfl ?_); refine goesL_ (some 64) rfl rfl Try.func45 zr rfl #[.slice Ao13 t499.length co13, .int .i64 t500, .slice Ao14 t501.length co14, .int .i64 t502, .int .i64 t503, .slice Ao15 t504.length co15] rfl zm ?_; (with_reducible refine (impl_StoppedCues.calls k _ _ t499 t500 _ _ t501 t502 t503 _ _ t504 t519 t520 _ ?side1 ?side2 ?side3 ?side4 ?side5 ?side6 A7.out).mono ?_); (case side1 => repeat (first | exact (jJ HO506.out).2.2 | (with_reducible refine jR ?_ _) | (with_reducible refine jQ ?_ _) | (with_reducible refine jS ?_))); (case side2 => exact (jJ HO506.out).2.1); (case side3 => repeat (first | exact (jJ HO508.out).2.2 | (with_reducible refine jR ?_ _) | (with_reducible refine jQ ?_ _) | (with_reducible refine jS ?_))); (case side4 => exact (jJ HO508.out).2.1); (case side5 => repeat (first | exact (jJ HO510.out).2.2 | (with_reducible refine jR ?_ _) | (with_reducible refine jQ ?_ _) | (with_reducible refine jS ?_))); (case side6 => exact (jJ HO510.out).2.1); rintro e w18 ⟨v521, rfl, ho0, hb⟩; refine ⟨_, rfl, ?_⟩; have n0_ := jA (jZ (zo HO506) hb); have n1_ := jA (jZ (zo HO508) hb); have n2_ := jA (Kd.R_elder' (zo HO510) (Kd.R_base ho0) hb); have n3_ := jA (Kd.R_elder' (zo HO514) (Kd.R_base ho0) hb); have n4_ := jA (Kd.R_elder' (zo HO518) (Kd.R_base ho0) hb); have n5_ := jA (jf (Kd.R_new' (Kd.R_new' (Kd.R_new' ho0 (Kd.R_lt (zo HO510))) (Kd.R_lt (zo HO514))) (Kd.R_lt (zo HO518))) (jY (zb0 HB))); have n6_ := jA (jV (zb0 HB) hb); clear HO506; clear HO508; clear HO510; clear HO514; clear HO518; clear HB; have HO506 := n0_; have HO508 := n1_; have HO510 := n2_; have HO514 := n3_; have HO518 := n4_; have HO522 := n5_; have HB := n6_; clear n0_ n1_ n2_ n3_ n4_ n5_ n6_; (try clear hb); (try clear hb2); (try clear hk); (try clear hi); (try clear ho0)) | ((with_reducible refine jN (f := 44) rfl ?_); refine goesL_ (some 74) rfl rfl Try.func44 zr rfl #[.slice Ao13 t499.length co13, .int .i64 t500, .slice Ao14 t501.length co14, .int .i64 t502, .int .i64 t503, .slice Ao15 t504.length co15] rfl zm ?_; (with_reducible refine (spec_StoppedCues.calls k _ _ t499 t500 _ _ t501 t502 t503 _ _ t504 t523 t524 _ ?side1 ?side2 ?side3 ?side4 ?side5 ?side6 A8.out).mono ?_); (case side1 => repeat (first | exact (jJ HO506.out).2.2 | (with_reducible refine jR ?_ _) | (with_reducible refine jQ ?_ _) | (with_reducible refine jS ?_))); (case side2 => exact (jJ HO506.out).2.1); (case side3 => repeat (first | exact (jJ HO508.out).2.2 | (with_reducible refine jR ?_ _) | (with_reducible refine jQ ?_ _) | (with_reducible refine jS ?_))); (case side4 => exact (jJ HO508.out).2.1); (case side5 => repeat (first | exact (jJ HO510.out).2.2 | (with_reducible refine jR ?_ _) | (with_reducible refine jQ ?_ _) | (with_reducible refine jS ?_))); (case side6 => exact (jJ HO510.out).2.1); rintro e w19 ⟨v525, rfl, ho0, hb⟩; refine ⟨_, rfl, ?_⟩; have n0_ := jA (jZ (zo HO506) hb); have n1_ := jA (jZ (zo HO508) hb); have n2_ := jA (Kd.R_elder' (zo HO510) (Kd.R_base ho0) hb); have n3_ := jA (Kd.R_elder' (zo HO514) (Kd.R_base ho0) hb); have n4_ := jA (Kd.R_elder' (zo HO518) (Kd.R_base ho0) hb); have n5_ := jA (Kd.R_elder' (zo HO522) (Kd.R_base ho0) hb); have n6_ := jA (jf (Kd.R_new' (Kd.R_new' (Kd.R_new' (Kd.R_new' ho0 (Kd.R_lt (zo HO510))) (Kd.R_lt (zo HO514))) (Kd.R_lt (zo HO518))) (Kd.R_lt (zo HO522))) (jY (zb0 HB))); have n7_ := jA (jV (zb0 HB) hb); clear HO506; clear HO508; clear HO510; clear HO514; clear HO518; clear HO522; clear HB; have HO506 := n0_; have HO508 := n1_; have HO510 := n2_; have HO514 := n3_; have HO518 := n4_; have HO522 := n5_; have HO526 := n6_; have HB := n7_; clear n0_ n1_ n2_ n3_ n4_ n5_ n6_ n7_; (try clear hb); (try clear hb2); (try clear hk); (try clear hi); (try clear ho0)) | ((with_reducible refine jN (f := 47) rfl ?_); refine goesL_ (some 84) rfl rfl Try.func47 zr rfl #[.slice Ao13 t499.length co13, .int .i64 t500, .slice Ao14 t501.length co14, .int .i64 t502, .int .i64 t503, .slice Ao15 t504.length co15] rfl zm ?_; (with_reducible refine (impl_WithoutLateCues.calls k _ _ t499 t500 _ _ t501 t502 t503 _ _ t504 t527 t528 _ ?side1 ?side2 ?side3 ?side4 ?side5 ?side6 A9.out).mono ?_); (case side1 => repeat (first | exact (jJ HO506.out).2.2 | (with_reducible refine jR ?_ _) | (with_reducible refine jQ ?_ _) | (with_reducible refine jS ?_))); (case side2 => exact (jJ HO506.out).2.1); (case side3 => repeat (first | exact (jJ HO508.out).2.2 | (with_reducible refine jR ?_ _) | (with_reducible refine jQ ?_ _) | (with_reducible refine jS ?_))); (case side4 => exact (jJ HO508.out).2.1); (case side5 => repeat (first | exact (jJ HO510.out).2.2 | (with_reducible refine jR ?_ _) | (with_reducible refine jQ ?_ _) | (with_reducible refine jS ?_))); (case side6 => exact (jJ HO510.out).2.1); rintro e w20 ⟨v529, rfl, ho0, hb⟩; refine ⟨_, rfl, ?_⟩; have n0_ := jA (jZ (zo HO506) hb); have n1_ := jA (jZ (zo HO508) hb); have n2_ := jA (Kd.R_elder' (zo HO510) (Kd.R_base ho0) hb); have n3_ := jA (Kd.R_elder' (zo HO514) (Kd.R_base ho0) hb); have n4_ := jA (Kd.R_elder' (zo HO518) (Kd.R_base ho0) hb); have n5_ := jA (Kd.R_elder' (zo HO522) (Kd.R_base ho0) hb); have n6_ := jA (Kd.R_elder' (zo HO526) (Kd.R_base ho0) hb); have n7_ := jA (jf (Kd.R_new' (Kd.R_new' (Kd.R_new' (Kd.R_new' (Kd.R_new' ho0 (Kd.R_lt (zo HO510))) (Kd.R_lt (zo HO514))) (Kd.R_lt (zo HO518))) (Kd.R_lt (zo HO522))) (Kd.R_lt (zo HO526))) (jY (zb0 HB))); have n8_ := jA (jV (zb0 HB) hb); clear HO506; clear HO508; clear HO510; clear HO514; clear HO518; clear HO522; clear HO526; clear HB; have HO506 := n0_; have HO508 := n1_; have HO510 := n2_; have HO514 := n3_; have HO518 := n4_; have HO522 := n5_; have HO526 := n6_; have HO530 := n7_; have HB := n8_; clear n0_ n1_ n2_ n3_ n4_ n5_ n6_ n7_ n8_; (try clear hb); (try clear hb2); (try clear hk); (try clear hi); (try clear ho0)) | ((with_reducible refine jN (f := 48) rfl ?_); refine goesL_ (some 94) rfl rfl Try.func48 zr rfl #[.slice Ao13 t499.length co13, .int .i64 t500, .slice Ao14 t501.length co14, .int .i64 t502, .int .i64 t503, .slice Ao15 t504.length co15] rfl zm ?_; (with_reducible refine (spec_WithoutLateCues.calls k _ _ t499 t500 _ _ t501 t502 t503 _ _ t504 t531 t532 _ ?side1 ?side2 ?side3 ?side4 ?side5 ?side6 A10.out).mono ?_); (case side1 => repeat (first | exact (jJ HO506.out).2.2 | (with_reducible refine jR ?_ _) | (with_reducible refine jQ ?_ _) | (with_reducible refine jS ?_))); (case side2 => exact (jJ HO506.out).2.1); (case side3 => repeat (first | exact (jJ HO508.out).2.2 | (with_reducible refine jR ?_ _) | (with_reducible refine jQ ?_ _) | (with_reducible refine jS ?_))); (case side4 => exact (jJ HO508.out).2.1); (case side5 => repeat (first | exact (jJ HO510.out).2.2 | (with_reducible refine jR ?_ _) | (with_reducible refine jQ ?_ _) | (with_reducible refine jS ?_))); (case side6 => exact (jJ HO510.out).2.1); rintro e w21 ⟨v533, rfl, ho0, hb⟩; refine ⟨_, rfl, ?_⟩; have n0_ := jA (jZ (zo HO506) hb); have n1_ := jA (jZ (zo HO508) hb); have n2_ := jA (Kd.R_elder' (zo HO510) (Kd.R_base ho0) hb); have n3_ := jA (Kd.R_elder' (zo HO514) (Kd.R_base ho0) hb); have n4_ := jA (Kd.R_elder' (zo HO518) (Kd.R_base ho0) hb); have n5_ := jA (Kd.R_elder' (zo HO522) (Kd.R_base ho0) hb); have n6_ := jA (Kd.R_elder' (zo HO526) (Kd.R_base ho0) hb); have n7_ := jA (Kd.R_elder' (zo HO530) (Kd.R_base ho0) hb); have n8_ := jA (jf (Kd.R_new' (Kd.R_new' (Kd.R_new' (Kd.R_new' (Kd.R_new' (Kd.R_new' ho0 (Kd.R_lt (zo HO510))) (Kd.R_lt (zo HO514))) (Kd.R_lt (zo HO518))) (Kd.R_lt (zo HO522))) (Kd.R_lt (zo HO526))) (Kd.R_lt (zo HO530))) (jY (zb0 HB))); have n9_ := jA (jV (zb0 HB) hb); clear HO506; clear HO508; clear HO510; clear HO514; clear HO518; clear HO522; clear HO526; clear HO530; clear HB; have HO506 := n0_; have HO508 := n1_; have HO510 := n2_; have HO514 := n3_; have HO518 := n4_; have HO522 := n5_; have HO526 := n6_; have HO530 := n7_; have HO534 := n8_; have HB := n9_; clear n0_ n1_ n2_ n3_ n4_ n5_ n6_ n7_ n8_ n9_; (try clear hb); (try clear hb2); (try clear hk); (try clear hi); (try clear ho0)))
  (try simp only [Act.put, jO, jT, jU])
  go_cut [137] (fun v137 wc => ∃ (kq : Nat) (x137_10 : Bool), v137 = .bool x137_10 ∧ Aside0 (laws_FnStops.j0 kq t499 t500 t501 t502 t503 t504 t511 t512 t519 t527 x137_10 = some r) ∧ Aside0 (kq ≤ k) ∧ Aside0 (Kd.R k63 63 wc w.heap.size (fun _ => True) (.slice Ao13 t499.length co13) t499) ∧ Aside0 (Kd.R k59 59 wc w.heap.size (fun _ => True) (.slice Ao14 t501.length co14) t501) ∧ Aside0 (Kd.R (Kd.int .i64) 2 wc w.heap.size (fun k_ => some k_ ≠ (v513 : Value).ownBlock ∧ some k_ ≠ (v521 : Value).ownBlock ∧ some k_ ≠ (v529 : Value).ownBlock) (.slice Ao15 t504.length co15) t504) ∧ Aside0 (Kd.R (Kd.int .i64) 2 wc w.heap.size (fun k_ => some k_ ≠ ((.slice Ao15 t504.length co15) : Value).ownBlock ∧ some k_ ≠ (v521 : Value).ownBlock ∧ some k_ ≠ (v529 : Value).ownBlock) v513 t511) ∧ Aside0 (Kd.R (Kd.int .i64) 2 wc w.heap.size (fun k_ => some k_ ≠ ((.slice Ao15 t504.length co15) : Value).ownBlock ∧ some k_ ≠ (v513 : Value).ownBlock ∧ some k_ ≠ (v529 : Value).ownBlock) v521 t519) ∧ Aside0 (Kd.R (Kd.int .i64) 2 wc w.heap.size (fun k_ => some k_ ≠ ((.slice Ao15 t504.length co15) : Value).ownBlock ∧ some k_ ≠ (v513 : Value).ownBlock ∧ some k_ ≠ (v521 : Value).ownBlock) v529 t527) ∧ Aside0 (Below w.heap.size w wc))
  case first =>
   have H := HC11.out
   clear HC11
   by_cases c22 : t512 = t516
   ·as_aux_lemma =>
    rw [if_pos c22] at H
    have c22b0 : (t512 == t516) = true := beq_iff_eq.mpr c22
    have c22b1 : (t512 != t516) = false := bne_eq_false_iff_eq.mpr c22
    clear c22
    (first | rw [c22b0] | (simp only [i64_w, i32_w]; rw [c22b0]) | skip)
    replace H := jD.mp H
    obtain ⟨t535, A230, H⟩ := H
    replace H : (if t535 = true then (if t520 = t524 then ((laws_likeInts.f k t519 t523).bind fun t536 => (if t536 = true then (if t528 = t532 then ((laws_likeInts.f k t527 t531).bind fun t537 => (if t537 = true then (if t520 = t512 then (laws_FnStops.j0 k t499 t500 t501 t502 t503 t504 t511 t512 t519 t527 (t528 != t512)) else (laws_FnStops.j0 k t499 t500 t501 t502 t503 t504 t511 t512 t519 t527 true)) else (laws_FnStops.j0 k t499 t500 t501 t502 t503 t504 t511 t512 t519 t527 true))) else (laws_FnStops.j0 k t499 t500 t501 t502 t503 t504 t511 t512 t519 t527 true)) else (laws_FnStops.j0 k t499 t500 t501 t502 t503 t504 t511 t512 t519 t527 true))) else (laws_FnStops.j0 k t499 t500 t501 t502 t503 t504 t511 t512 t519 t527 true)) else (laws_FnStops.j0 k t499 t500 t501 t502 t503 t504 t511 t512 t519 t527 true)) = some r := H
    have A23 := jA A230
    clear A230
    by_cases c24 : t535 = true
    ·as_aux_lemma =>
     subst c24
     have H1 : (if t520 = t524 then ((laws_likeInts.f k t519 t523).bind fun t536 => (if t536 = true then (if t528 = t532 then ((laws_likeInts.f k t527 t531).bind fun t537 => (if t537 = true then (if t520 = t512 then (laws_FnStops.j0 k t499 t500 t501 t502 t503 t504 t511 t512 t519 t527 (t528 != t512)) else (laws_FnStops.j0 k t499 t500 t501 t502 t503 t504 t511 t512 t519 t527 true)) else (laws_FnStops.j0 k t499 t500 t501 t502 t503 t504 t511 t512 t519 t527 true))) else (laws_FnStops.j0 k t499 t500 t501 t502 t503 t504 t511 t512 t519 t527 true)) else (laws_FnStops.j0 k t499 t500 t501 t502 t503 t504 t511 t512 t519 t527 true))) else (laws_FnStops.j0 k t499 t500 t501 t502 t503 t504 t511 t512 t519 t527 true)) = some r := by rw [if_pos rfl] at H; exact H
     clear H
     have H := H1
     clear H1
     by_cases c25 : t520 = t524
     ·as_aux_lemma =>
      rw [if_pos c25] at H
      have c25b0 : (t520 == t524) = true := beq_iff_eq.mpr c25
      have c25b1 : (t520 != t524) = false := bne_eq_false_iff_eq.mpr c25
      clear c25
      replace H := jD.mp H
      obtain ⟨t536, A260, H⟩ := H
      replace H : (if t536 = true then (if t528 = t532 then ((laws_likeInts.f k t527 t531).bind fun t537 => (if t537 = true then (if t520 = t512 then (laws_FnStops.j0 k t499 t500 t501 t502 t503 t504 t511 t512 t519 t527 (t528 != t512)) else (laws_FnStops.j0 k t499 t500 t501 t502 t503 t504 t511 t512 t519 t527 true)) else (laws_FnStops.j0 k t499 t500 t501 t502 t503 t504 t511 t512 t519 t527 true))) else (laws_FnStops.j0 k t499 t500 t501 t502 t503 t504 t511 t512 t519 t527 true)) else (laws_FnStops.j0 k t499 t500 t501 t502 t503 t504 t511 t512 t519 t527 true)) = some r := H
      have A26 := jA A260
      clear A260
      by_cases c27 : t536 = true
      ·as_aux_lemma =>
       subst c27
       have H1 : (if t528 = t532 then ((laws_likeInts.f k t527 t531).bind fun t537 => (if t537 = true then (if t520 = t512 then (laws_FnStops.j0 k t499 t500 t501 t502 t503 t504 t511 t512 t519 t527 (t528 != t512)) else (laws_FnStops.j0 k t499 t500 t501 t502 t503 t504 t511 t512 t519 t527 true)) else (laws_FnStops.j0 k t499 t500 t501 t502 t503 t504 t511 t512 t519 t527 true))) else (laws_FnStops.j0 k t499 t500 t501 t502 t503 t504 t511 t512 t519 t527 true)) = some r := by rw [if_pos rfl] at H; exact H
       clear H
       have H := H1
       clear H1
       by_cases c28 : t528 = t532
       ·as_aux_lemma =>
        rw [if_pos c28] at H
        have c28b0 : (t528 == t532) = true := beq_iff_eq.mpr c28
        have c28b1 : (t528 != t532) = false := bne_eq_false_iff_eq.mpr c28
        clear c28
        replace H := jD.mp H
        obtain ⟨t537, A290, H⟩ := H
        replace H : (if t537 = true then (if t520 = t512 then (laws_FnStops.j0 k t499 t500 t501 t502 t503 t504 t511 t512 t519 t527 (t528 != t512)) else (laws_FnStops.j0 k t499 t500 t501 t502 t503 t504 t511 t512 t519 t527 true)) else (laws_FnStops.j0 k t499 t500 t501 t502 t503 t504 t511 t512 t519 t527 true)) = some r := H
        have A29 := jA A290
        clear A290
        by_cases c30 : t537 = true
        ·as_aux_lemma =>
         subst c30
         have H1 : (if t520 = t512 then (laws_FnStops.j0 k t499 t500 t501 t502 t503 t504 t511 t512 t519 t527 (t528 != t512)) else (laws_FnStops.j0 k t499 t500 t501 t502 t503 t504 t511 t512 t519 t527 true)) = some r := by rw [if_pos rfl] at H; exact H
         clear H
         have H := H1
         clear H1
         by_cases c31 : t520 = t512
         ·rw [if_pos c31] at H
          have c31b0 : (t520 == t512) = true := beq_iff_eq.mpr c31
          have c31b1 : (t520 != t512) = false := bne_eq_false_iff_eq.mpr c31
          clear c31
          have H' := jA H
          clear H
          obtain ⟨Ao32, co32, eo32⟩ := Kd.R_slice HO514.out
          subst eo32
          obtain ⟨Ao33, co33, eo33⟩ := Kd.R_slice HO518.out
          subst eo33
          go_wp2_with (first | (go_at_call 33; (with_reducible refine (laws_likeInts.calls k _ _ t511 _ _ t515 true _ ?side1 ?side2 ?side3 ?side4 A23.out).mono ?_); (case side1 => repeat (first | exact (jJ HO514.out).2.2 | (with_reducible refine jR ?_ _) | (with_reducible refine jQ ?_ _) | (with_reducible refine jS ?_))); (case side2 => exact (jJ HO514.out).2.1); (case side3 => repeat (first | exact (jJ HO518.out).2.2 | (with_reducible refine jR ?_ _) | (with_reducible refine jQ ?_ _) | (with_reducible refine jS ?_))); (case side4 => exact (jJ HO518.out).2.1); rintro e w' ⟨rfl, ⟨nd, rfl⟩⟩; obtain ⟨Ao34, co34, eo34⟩ := Kd.R_slice HO522.out; subst eo34; obtain ⟨Ao35, co35, eo35⟩ := Kd.R_slice HO526.out; subst eo35) | (go_at_call 33; (with_reducible refine (laws_likeInts.calls k _ _ t519 _ _ t523 true _ ?side1 ?side2 ?side3 ?side4 A26.out).mono ?_); (case side1 => repeat (first | exact (jJ HO522.out).2.2 | (with_reducible refine jR ?_ _) | (with_reducible refine jQ ?_ _) | (with_reducible refine jS ?_))); (case side2 => exact (jJ HO522.out).2.1); (case side3 => repeat (first | exact (jJ HO526.out).2.2 | (with_reducible refine jR ?_ _) | (with_reducible refine jQ ?_ _) | (with_reducible refine jS ?_))); (case side4 => exact (jJ HO526.out).2.1); rintro e w' ⟨rfl, ⟨nd, rfl⟩⟩; obtain ⟨Ao36, co36, eo36⟩ := Kd.R_slice HO530.out; subst eo36; obtain ⟨Ao37, co37, eo37⟩ := Kd.R_slice HO534.out; subst eo37) | (go_at_call 33; (with_reducible refine (laws_likeInts.calls k _ _ t527 _ _ t531 true _ ?side1 ?side2 ?side3 ?side4 A29.out).mono ?_); (case side1 => repeat (first | exact (jJ HO530.out).2.2 | (with_reducible refine jR ?_ _) | (with_reducible refine jQ ?_ _) | (with_reducible refine jS ?_))); (case side2 => exact (jJ HO530.out).2.1); (case side3 => repeat (first | exact (jJ HO534.out).2.2 | (with_reducible refine jR ?_ _) | (with_reducible refine jQ ?_ _) | (with_reducible refine jS ?_))); (case side4 => exact (jJ HO534.out).2.1); rintro e w' ⟨rfl, ⟨nd, rfl⟩⟩))
          go_meet
          case rel => exact ⟨_, ((t528 != t512)), zz, H', ⟨by first | omega | exact Nat.le_refl _⟩, ⟨by (with_reducible repeat (first | apply jH | apply jG | apply jK)); exact HO506.out⟩, ⟨by (with_reducible repeat (first | apply jH | apply jG | apply jK)); exact HO508.out⟩, ⟨by (with_reducible repeat (first | apply jH | apply jG | apply jK)); exact Kd.R_mono HO510.out (fun _ hk => ⟨hk.1.1.1.1.1.2, ⟨hk.1.1.1.2, hk.1.2⟩⟩)⟩, ⟨by (with_reducible repeat (first | apply jH | apply jG | apply jK)); exact Kd.R_mono HO514.out (fun _ hk => ⟨hk.1.1.1.1.1.2, ⟨hk.1.1.1.2, hk.1.2⟩⟩)⟩, ⟨by (with_reducible repeat (first | apply jH | apply jG | apply jK)); exact Kd.R_mono HO522.out (fun _ hk => ⟨hk.1.1.1.1.1.2, ⟨hk.1.1.1.1.2, hk.1.2⟩⟩)⟩, ⟨by (with_reducible repeat (first | apply jH | apply jG | apply jK)); exact Kd.R_mono HO530.out (fun _ hk => ⟨hk.1.1.1.1.1.2, ⟨hk.1.1.1.1.2, hk.1.1.2⟩⟩)⟩, ⟨zb0 HB⟩⟩
         ·rw [if_neg c31] at H
          have c31b0 : (t520 == t512) = false := beq_eq_false_iff_ne.mpr c31
          have c31b1 : (t520 != t512) = true := bne_iff_ne.mpr c31
          have H' := jA H
          clear H
          obtain ⟨Ao38, co38, eo38⟩ := Kd.R_slice HO514.out
          subst eo38
          obtain ⟨Ao39, co39, eo39⟩ := Kd.R_slice HO518.out
          subst eo39
          go_wp2_with (first | (go_at_call 33; (with_reducible refine (laws_likeInts.calls k _ _ t511 _ _ t515 true _ ?side1 ?side2 ?side3 ?side4 A23.out).mono ?_); (case side1 => repeat (first | exact (jJ HO514.out).2.2 | (with_reducible refine jR ?_ _) | (with_reducible refine jQ ?_ _) | (with_reducible refine jS ?_))); (case side2 => exact (jJ HO514.out).2.1); (case side3 => repeat (first | exact (jJ HO518.out).2.2 | (with_reducible refine jR ?_ _) | (with_reducible refine jQ ?_ _) | (with_reducible refine jS ?_))); (case side4 => exact (jJ HO518.out).2.1); rintro e w' ⟨rfl, ⟨nd, rfl⟩⟩; obtain ⟨Ao40, co40, eo40⟩ := Kd.R_slice HO522.out; subst eo40; obtain ⟨Ao41, co41, eo41⟩ := Kd.R_slice HO526.out; subst eo41) | (go_at_call 33; (with_reducible refine (laws_likeInts.calls k _ _ t519 _ _ t523 true _ ?side1 ?side2 ?side3 ?side4 A26.out).mono ?_); (case side1 => repeat (first | exact (jJ HO522.out).2.2 | (with_reducible refine jR ?_ _) | (with_reducible refine jQ ?_ _) | (with_reducible refine jS ?_))); (case side2 => exact (jJ HO522.out).2.1); (case side3 => repeat (first | exact (jJ HO526.out).2.2 | (with_reducible refine jR ?_ _) | (with_reducible refine jQ ?_ _) | (with_reducible refine jS ?_))); (case side4 => exact (jJ HO526.out).2.1); rintro e w' ⟨rfl, ⟨nd, rfl⟩⟩; obtain ⟨Ao42, co42, eo42⟩ := Kd.R_slice HO530.out; subst eo42; obtain ⟨Ao43, co43, eo43⟩ := Kd.R_slice HO534.out; subst eo43) | (go_at_call 33; (with_reducible refine (laws_likeInts.calls k _ _ t527 _ _ t531 true _ ?side1 ?side2 ?side3 ?side4 A29.out).mono ?_); (case side1 => repeat (first | exact (jJ HO530.out).2.2 | (with_reducible refine jR ?_ _) | (with_reducible refine jQ ?_ _) | (with_reducible refine jS ?_))); (case side2 => exact (jJ HO530.out).2.1); (case side3 => repeat (first | exact (jJ HO534.out).2.2 | (with_reducible refine jR ?_ _) | (with_reducible refine jQ ?_ _) | (with_reducible refine jS ?_))); (case side4 => exact (jJ HO534.out).2.1); rintro e w' ⟨rfl, ⟨nd, rfl⟩⟩))
          go_meet
          case rel => exact ⟨_, (true), zz, H', ⟨by first | omega | exact Nat.le_refl _⟩, ⟨by (with_reducible repeat (first | apply jH | apply jG | apply jK)); exact HO506.out⟩, ⟨by (with_reducible repeat (first | apply jH | apply jG | apply jK)); exact HO508.out⟩, ⟨by (with_reducible repeat (first | apply jH | apply jG | apply jK)); exact Kd.R_mono HO510.out (fun _ hk => ⟨hk.1.1.1.1.1.2, ⟨hk.1.1.1.2, hk.1.2⟩⟩)⟩, ⟨by (with_reducible repeat (first | apply jH | apply jG | apply jK)); exact Kd.R_mono HO514.out (fun _ hk => ⟨hk.1.1.1.1.1.2, ⟨hk.1.1.1.2, hk.1.2⟩⟩)⟩, ⟨by (with_reducible repeat (first | apply jH | apply jG | apply jK)); exact Kd.R_mono HO522.out (fun _ hk => ⟨hk.1.1.1.1.1.2, ⟨hk.1.1.1.1.2, hk.1.2⟩⟩)⟩, ⟨by (with_reducible repeat (first | apply jH | apply jG | apply jK)); exact Kd.R_mono HO530.out (fun _ hk => ⟨hk.1.1.1.1.1.2, ⟨hk.1.1.1.1.2, hk.1.1.2⟩⟩)⟩, ⟨zb0 HB⟩⟩
        ·replace c30 := Bool.eq_false_iff.mpr c30
         subst c30
         have H1 : (laws_FnStops.j0 k t499 t500 t501 t502 t503 t504 t511 t512 t519 t527 true) = some r := by rw [if_neg (show ¬ (false = true) by decide)] at H; exact H
         clear H
         have H := H1
         clear H1
         have H' := jA H
         clear H
         obtain ⟨Ao44, co44, eo44⟩ := Kd.R_slice HO514.out
         subst eo44
         obtain ⟨Ao45, co45, eo45⟩ := Kd.R_slice HO518.out
         subst eo45
         go_wp2_with (first | (go_at_call 33; (with_reducible refine (laws_likeInts.calls k _ _ t511 _ _ t515 true _ ?side1 ?side2 ?side3 ?side4 A23.out).mono ?_); (case side1 => repeat (first | exact (jJ HO514.out).2.2 | (with_reducible refine jR ?_ _) | (with_reducible refine jQ ?_ _) | (with_reducible refine jS ?_))); (case side2 => exact (jJ HO514.out).2.1); (case side3 => repeat (first | exact (jJ HO518.out).2.2 | (with_reducible refine jR ?_ _) | (with_reducible refine jQ ?_ _) | (with_reducible refine jS ?_))); (case side4 => exact (jJ HO518.out).2.1); rintro e w' ⟨rfl, ⟨nd, rfl⟩⟩; obtain ⟨Ao46, co46, eo46⟩ := Kd.R_slice HO522.out; subst eo46; obtain ⟨Ao47, co47, eo47⟩ := Kd.R_slice HO526.out; subst eo47) | (go_at_call 33; (with_reducible refine (laws_likeInts.calls k _ _ t519 _ _ t523 true _ ?side1 ?side2 ?side3 ?side4 A26.out).mono ?_); (case side1 => repeat (first | exact (jJ HO522.out).2.2 | (with_reducible refine jR ?_ _) | (with_reducible refine jQ ?_ _) | (with_reducible refine jS ?_))); (case side2 => exact (jJ HO522.out).2.1); (case side3 => repeat (first | exact (jJ HO526.out).2.2 | (with_reducible refine jR ?_ _) | (with_reducible refine jQ ?_ _) | (with_reducible refine jS ?_))); (case side4 => exact (jJ HO526.out).2.1); rintro e w' ⟨rfl, ⟨nd, rfl⟩⟩; obtain ⟨Ao48, co48, eo48⟩ := Kd.R_slice HO530.out; subst eo48; obtain ⟨Ao49, co49, eo49⟩ := Kd.R_slice HO534.out; subst eo49) | (go_at_call 33; (with_reducible refine (laws_likeInts.calls k _ _ t527 _ _ t531 false _ ?side1 ?side2 ?side3 ?side4 A29.out).mono ?_); (case side1 => repeat (first | exact (jJ HO530.out).2.2 | (with_reducible refine jR ?_ _) | (with_reducible refine jQ ?_ _) | (with_reducible refine jS ?_))); (case side2 => exact (jJ HO530.out).2.1); (case side3 => repeat (first | exact (jJ HO534.out).2.2 | (with_reducible refine jR ?_ _) | (with_reducible refine jQ ?_ _) | (with_reducible refine jS ?_))); (case side4 => exact (jJ HO534.out).2.1); rintro e w' ⟨rfl, ⟨nd, rfl⟩⟩))
         go_meet
         case rel => exact ⟨_, (true), zz, H', ⟨by first | omega | exact Nat.le_refl _⟩, ⟨by (with_reducible repeat (first | apply jH | apply jG | apply jK)); exact HO506.out⟩, ⟨by (with_reducible repeat (first | apply jH | apply jG | apply jK)); exact HO508.out⟩, ⟨by (with_reducible repeat (first | apply jH | apply jG | apply jK)); exact Kd.R_mono HO510.out (fun _ hk => ⟨hk.1.1.1.1.1.2, ⟨hk.1.1.1.2, hk.1.2⟩⟩)⟩, ⟨by (with_reducible repeat (first | apply jH | apply jG | apply jK)); exact Kd.R_mono HO514.out (fun _ hk => ⟨hk.1.1.1.1.1.2, ⟨hk.1.1.1.2, hk.1.2⟩⟩)⟩, ⟨by (with_reducible repeat (first | apply jH | apply jG | apply jK)); exact Kd.R_mono HO522.out (fun _ hk => ⟨hk.1.1.1.1.1.2, ⟨hk.1.1.1.1.2, hk.1.2⟩⟩)⟩, ⟨by (with_reducible repeat (first | apply jH | apply jG | apply jK)); exact Kd.R_mono HO530.out (fun _ hk => ⟨hk.1.1.1.1.1.2, ⟨hk.1.1.1.1.2, hk.1.1.2⟩⟩)⟩, ⟨zb0 HB⟩⟩
       ·rw [if_neg c28] at H
        have c28b0 : (t528 == t532) = false := beq_eq_false_iff_ne.mpr c28
        have c28b1 : (t528 != t532) = true := bne_iff_ne.mpr c28
        have H' := jA H
        clear H
        obtain ⟨Ao50, co50, eo50⟩ := Kd.R_slice HO514.out
        subst eo50
        obtain ⟨Ao51, co51, eo51⟩ := Kd.R_slice HO518.out
        subst eo51
        go_wp2_with (first | (go_at_call 33; (with_reducible refine (laws_likeInts.calls k _ _ t511 _ _ t515 true _ ?side1 ?side2 ?side3 ?side4 A23.out).mono ?_); (case side1 => repeat (first | exact (jJ HO514.out).2.2 | (with_reducible refine jR ?_ _) | (with_reducible refine jQ ?_ _) | (with_reducible refine jS ?_))); (case side2 => exact (jJ HO514.out).2.1); (case side3 => repeat (first | exact (jJ HO518.out).2.2 | (with_reducible refine jR ?_ _) | (with_reducible refine jQ ?_ _) | (with_reducible refine jS ?_))); (case side4 => exact (jJ HO518.out).2.1); rintro e w' ⟨rfl, ⟨nd, rfl⟩⟩; obtain ⟨Ao52, co52, eo52⟩ := Kd.R_slice HO522.out; subst eo52; obtain ⟨Ao53, co53, eo53⟩ := Kd.R_slice HO526.out; subst eo53) | (go_at_call 33; (with_reducible refine (laws_likeInts.calls k _ _ t519 _ _ t523 true _ ?side1 ?side2 ?side3 ?side4 A26.out).mono ?_); (case side1 => repeat (first | exact (jJ HO522.out).2.2 | (with_reducible refine jR ?_ _) | (with_reducible refine jQ ?_ _) | (with_reducible refine jS ?_))); (case side2 => exact (jJ HO522.out).2.1); (case side3 => repeat (first | exact (jJ HO526.out).2.2 | (with_reducible refine jR ?_ _) | (with_reducible refine jQ ?_ _) | (with_reducible refine jS ?_))); (case side4 => exact (jJ HO526.out).2.1); rintro e w' ⟨rfl, ⟨nd, rfl⟩⟩))
        go_meet
        case rel => exact ⟨_, (true), zz, H', ⟨by first | omega | exact Nat.le_refl _⟩, ⟨by (with_reducible repeat (first | apply jH | apply jG | apply jK)); exact HO506.out⟩, ⟨by (with_reducible repeat (first | apply jH | apply jG | apply jK)); exact HO508.out⟩, ⟨by (with_reducible repeat (first | apply jH | apply jG | apply jK)); exact Kd.R_mono HO510.out (fun _ hk => ⟨hk.1.1.1.1.1.2, ⟨hk.1.1.1.2, hk.1.2⟩⟩)⟩, ⟨by (with_reducible repeat (first | apply jH | apply jG | apply jK)); exact Kd.R_mono HO514.out (fun _ hk => ⟨hk.1.1.1.1.1.2, ⟨hk.1.1.1.2, hk.1.2⟩⟩)⟩, ⟨by (with_reducible repeat (first | apply jH | apply jG | apply jK)); exact Kd.R_mono HO522.out (fun _ hk => ⟨hk.1.1.1.1.1.2, ⟨hk.1.1.1.1.2, hk.1.2⟩⟩)⟩, ⟨by (with_reducible repeat (first | apply jH | apply jG | apply jK)); exact Kd.R_mono HO530.out (fun _ hk => ⟨hk.1.1.1.1.1.2, ⟨hk.1.1.1.1.2, hk.1.1.2⟩⟩)⟩, ⟨zb0 HB⟩⟩
      ·replace c27 := Bool.eq_false_iff.mpr c27
       subst c27
       have H1 : (laws_FnStops.j0 k t499 t500 t501 t502 t503 t504 t511 t512 t519 t527 true) = some r := by rw [if_neg (show ¬ (false = true) by decide)] at H; exact H
       clear H
       have H := H1
       clear H1
       have H' := jA H
       clear H
       obtain ⟨Ao54, co54, eo54⟩ := Kd.R_slice HO514.out
       subst eo54
       obtain ⟨Ao55, co55, eo55⟩ := Kd.R_slice HO518.out
       subst eo55
       go_wp2_with (first | (go_at_call 33; (with_reducible refine (laws_likeInts.calls k _ _ t511 _ _ t515 true _ ?side1 ?side2 ?side3 ?side4 A23.out).mono ?_); (case side1 => repeat (first | exact (jJ HO514.out).2.2 | (with_reducible refine jR ?_ _) | (with_reducible refine jQ ?_ _) | (with_reducible refine jS ?_))); (case side2 => exact (jJ HO514.out).2.1); (case side3 => repeat (first | exact (jJ HO518.out).2.2 | (with_reducible refine jR ?_ _) | (with_reducible refine jQ ?_ _) | (with_reducible refine jS ?_))); (case side4 => exact (jJ HO518.out).2.1); rintro e w' ⟨rfl, ⟨nd, rfl⟩⟩; obtain ⟨Ao56, co56, eo56⟩ := Kd.R_slice HO522.out; subst eo56; obtain ⟨Ao57, co57, eo57⟩ := Kd.R_slice HO526.out; subst eo57) | (go_at_call 33; (with_reducible refine (laws_likeInts.calls k _ _ t519 _ _ t523 false _ ?side1 ?side2 ?side3 ?side4 A26.out).mono ?_); (case side1 => repeat (first | exact (jJ HO522.out).2.2 | (with_reducible refine jR ?_ _) | (with_reducible refine jQ ?_ _) | (with_reducible refine jS ?_))); (case side2 => exact (jJ HO522.out).2.1); (case side3 => repeat (first | exact (jJ HO526.out).2.2 | (with_reducible refine jR ?_ _) | (with_reducible refine jQ ?_ _) | (with_reducible refine jS ?_))); (case side4 => exact (jJ HO526.out).2.1); rintro e w' ⟨rfl, ⟨nd, rfl⟩⟩))
       go_meet
       case rel => exact ⟨_, (true), zz, H', ⟨by first | omega | exact Nat.le_refl _⟩, ⟨by (with_reducible repeat (first | apply jH | apply jG | apply jK)); exact HO506.out⟩, ⟨by (with_reducible repeat (first | apply jH | apply jG | apply jK)); exact HO508.out⟩, ⟨by (with_reducible repeat (first | apply jH | apply jG | apply jK)); exact Kd.R_mono HO510.out (fun _ hk => ⟨hk.1.1.1.1.1.2, ⟨hk.1.1.1.2, hk.1.2⟩⟩)⟩, ⟨by (with_reducible repeat (first | apply jH | apply jG | apply jK)); exact Kd.R_mono HO514.out (fun _ hk => ⟨hk.1.1.1.1.1.2, ⟨hk.1.1.1.2, hk.1.2⟩⟩)⟩, ⟨by (with_reducible repeat (first | apply jH | apply jG | apply jK)); exact Kd.R_mono HO522.out (fun _ hk => ⟨hk.1.1.1.1.1.2, ⟨hk.1.1.1.1.2, hk.1.2⟩⟩)⟩, ⟨by (with_reducible repeat (first | apply jH | apply jG | apply jK)); exact Kd.R_mono HO530.out (fun _ hk => ⟨hk.1.1.1.1.1.2, ⟨hk.1.1.1.1.2, hk.1.1.2⟩⟩)⟩, ⟨zb0 HB⟩⟩
     ·rw [if_neg c25] at H
      have c25b0 : (t520 == t524) = false := beq_eq_false_iff_ne.mpr c25
      have c25b1 : (t520 != t524) = true := bne_iff_ne.mpr c25
      have H' := jA H
      clear H
      obtain ⟨Ao58, co58, eo58⟩ := Kd.R_slice HO514.out
      subst eo58
      obtain ⟨Ao59, co59, eo59⟩ := Kd.R_slice HO518.out
      subst eo59
      go_wp2_with (first | (go_at_call 33; (with_reducible refine (laws_likeInts.calls k _ _ t511 _ _ t515 true _ ?side1 ?side2 ?side3 ?side4 A23.out).mono ?_); (case side1 => repeat (first | exact (jJ HO514.out).2.2 | (with_reducible refine jR ?_ _) | (with_reducible refine jQ ?_ _) | (with_reducible refine jS ?_))); (case side2 => exact (jJ HO514.out).2.1); (case side3 => repeat (first | exact (jJ HO518.out).2.2 | (with_reducible refine jR ?_ _) | (with_reducible refine jQ ?_ _) | (with_reducible refine jS ?_))); (case side4 => exact (jJ HO518.out).2.1); rintro e w' ⟨rfl, ⟨nd, rfl⟩⟩))
      go_meet
      case rel => exact ⟨_, (true), zz, H', ⟨by first | omega | exact Nat.le_refl _⟩, ⟨by (with_reducible repeat (first | apply jH | apply jG | apply jK)); exact HO506.out⟩, ⟨by (with_reducible repeat (first | apply jH | apply jG | apply jK)); exact HO508.out⟩, ⟨by (with_reducible repeat (first | apply jH | apply jG | apply jK)); exact Kd.R_mono HO510.out (fun _ hk => ⟨hk.1.1.1.1.1.2, ⟨hk.1.1.1.2, hk.1.2⟩⟩)⟩, ⟨by (with_reducible repeat (first | apply jH | apply jG | apply jK)); exact Kd.R_mono HO514.out (fun _ hk => ⟨hk.1.1.1.1.1.2, ⟨hk.1.1.1.2, hk.1.2⟩⟩)⟩, ⟨by (with_reducible repeat (first | apply jH | apply jG | apply jK)); exact Kd.R_mono HO522.out (fun _ hk => ⟨hk.1.1.1.1.1.2, ⟨hk.1.1.1.1.2, hk.1.2⟩⟩)⟩, ⟨by (with_reducible repeat (first | apply jH | apply jG | apply jK)); exact Kd.R_mono HO530.out (fun _ hk => ⟨hk.1.1.1.1.1.2, ⟨hk.1.1.1.1.2, hk.1.1.2⟩⟩)⟩, ⟨zb0 HB⟩⟩
    ·replace c24 := Bool.eq_false_iff.mpr c24
     subst c24
     have H1 : (laws_FnStops.j0 k t499 t500 t501 t502 t503 t504 t511 t512 t519 t527 true) = some r := by rw [if_neg (show ¬ (false = true) by decide)] at H; exact H
     clear H
     have H := H1
     clear H1
     have H' := jA H
     clear H
     obtain ⟨Ao60, co60, eo60⟩ := Kd.R_slice HO514.out
     subst eo60
     obtain ⟨Ao61, co61, eo61⟩ := Kd.R_slice HO518.out
     subst eo61
     go_wp2_with (first | (go_at_call 33; (with_reducible refine (laws_likeInts.calls k _ _ t511 _ _ t515 false _ ?side1 ?side2 ?side3 ?side4 A23.out).mono ?_); (case side1 => repeat (first | exact (jJ HO514.out).2.2 | (with_reducible refine jR ?_ _) | (with_reducible refine jQ ?_ _) | (with_reducible refine jS ?_))); (case side2 => exact (jJ HO514.out).2.1); (case side3 => repeat (first | exact (jJ HO518.out).2.2 | (with_reducible refine jR ?_ _) | (with_reducible refine jQ ?_ _) | (with_reducible refine jS ?_))); (case side4 => exact (jJ HO518.out).2.1); rintro e w' ⟨rfl, ⟨nd, rfl⟩⟩))
     go_meet
     case rel => exact ⟨_, (true), zz, H', ⟨by first | omega | exact Nat.le_refl _⟩, ⟨by (with_reducible repeat (first | apply jH | apply jG | apply jK)); exact HO506.out⟩, ⟨by (with_reducible repeat (first | apply jH | apply jG | apply jK)); exact HO508.out⟩, ⟨by (with_reducible repeat (first | apply jH | apply jG | apply jK)); exact Kd.R_mono HO510.out (fun _ hk => ⟨hk.1.1.1.1.1.2, ⟨hk.1.1.1.2, hk.1.2⟩⟩)⟩, ⟨by (with_reducible repeat (first | apply jH | apply jG | apply jK)); exact Kd.R_mono HO514.out (fun _ hk => ⟨hk.1.1.1.1.1.2, ⟨hk.1.1.1.2, hk.1.2⟩⟩)⟩, ⟨by (with_reducible repeat (first | apply jH | apply jG | apply jK)); exact Kd.R_mono HO522.out (fun _ hk => ⟨hk.1.1.1.1.1.2, ⟨hk.1.1.1.1.2, hk.1.2⟩⟩)⟩, ⟨by (with_reducible repeat (first | apply jH | apply jG | apply jK)); exact Kd.R_mono HO530.out (fun _ hk => ⟨hk.1.1.1.1.1.2, ⟨hk.1.1.1.1.2, hk.1.1.2⟩⟩)⟩, ⟨zb0 HB⟩⟩
   ·rw [if_neg c22] at H
    have c22b0 : (t512 == t516) = false := beq_eq_false_iff_ne.mpr c22
    have c22b1 : (t512 != t516) = true := bne_iff_ne.mpr c22
    (first | rw [c22b0] | (simp only [i64_w, i32_w]; rw [c22b0]) | skip)
    have H' := jA H
    clear H
    go_wp2
    go_meet
    case rel => exact ⟨_, (true), zz, H', ⟨by first | omega | exact Nat.le_refl _⟩, ⟨by (with_reducible repeat (first | apply jH | apply jG | apply jK)); exact HO506.out⟩, ⟨by (with_reducible repeat (first | apply jH | apply jG | apply jK)); exact HO508.out⟩, ⟨by (with_reducible repeat (first | apply jH | apply jG | apply jK)); exact Kd.R_mono HO510.out (fun _ hk => ⟨hk.1.1.1.1.1.2, ⟨hk.1.1.1.2, hk.1.2⟩⟩)⟩, ⟨by (with_reducible repeat (first | apply jH | apply jG | apply jK)); exact Kd.R_mono HO514.out (fun _ hk => ⟨hk.1.1.1.1.1.2, ⟨hk.1.1.1.2, hk.1.2⟩⟩)⟩, ⟨by (with_reducible repeat (first | apply jH | apply jG | apply jK)); exact Kd.R_mono HO522.out (fun _ hk => ⟨hk.1.1.1.1.1.2, ⟨hk.1.1.1.1.2, hk.1.2⟩⟩)⟩, ⟨by (with_reducible repeat (first | apply jH | apply jG | apply jK)); exact Kd.R_mono HO530.out (fun _ hk => ⟨hk.1.1.1.1.1.2, ⟨hk.1.1.1.1.2, hk.1.1.2⟩⟩)⟩, ⟨zb0 HB⟩⟩
  case rest =>
   clear HC11
   try clear c2
   try clear p2
   try clear c3
   try clear c4
   try clear c9
   try clear c22
   try clear c22b0
   try clear c22b1
   try clear c24
   try clear c25
   try clear c25b0
   try clear c25b1
   try clear c27
   try clear c28
   try clear c28b0
   try clear c28b1
   try clear c30
   try clear c31
   try clear c31b0
   try clear c31b1
   try clear c37
   try clear c40
   try clear c44
   try clear c45
   try clear c46
   try clear c47
   try clear c48
   obtain ⟨kq, x137_10, rfl, HA, HJ10, HO_3, HO_5, HO_8, HO_9, HO_13, HO_17, HB⟩ := hcut
   cases kq with
   | zero => exact absurd HA.out (by simp [laws_FnStops.j0])
   | succ kj10 =>
    have H := HA.out
    clear HA
    simp only [laws_FnStops.j0] at H
    by_cases c62 : x137_10 = true
    ·subst c62
     have H1 : (some false) = some r := by rw [if_pos rfl] at H; exact H
     clear H
     have H := H1
     clear H1
     obtain rfl := jW H
     go_wp2
     go_ret
     exact ⟨by first | rfl | (simp [errW_none, errW_some] <;> rfl) | (simp [*, errW_none, errW_some] <;> rfl), zb0 HB⟩
    ·as_aux_lemma =>
     replace c62 := Bool.eq_false_iff.mpr c62
     subst c62
     have H1 : (if t512 = 0 then ((impl_LastStop.f kj10 t499 t502 t503).bind fun bt538 => (laws_FnStops.l0 kj10 t500 t501 t503 t504 t511 t519 t527 bt538.1 bt538.2 0)) else (some true)) = some r := by rw [if_neg (show ¬ (false = true) by decide)] at H; exact H
     clear H
     have H := H1
     clear H1
     by_cases c63 : t512 = 0
     ·as_aux_lemma =>
      rw [if_pos c63] at H
      have c63b0 : (t512 == 0) = true := beq_iff_eq.mpr c63
      have c63b1 : (t512 != 0) = false := bne_eq_false_iff_eq.mpr c63
      clear c63
      replace H := jD.mp H
      obtain ⟨⟨t538, t539⟩, A640, H⟩ := H
      replace H : (laws_FnStops.l0 kj10 t500 t501 t503 t504 t511 t519 t527 t538 t539 0) = some r := H
      have A64 := jA A640
      clear A640
      have H' := jA H
      clear H
      go_wp2_with (first | ((with_reducible refine jN (f := 14) rfl ?_); refine goesL_ (some 144) rfl rfl Try.func14 zr rfl #[.slice Ao13 t499.length co13, .int .i64 t502, .int .i64 t503] rfl zm ?_; (with_reducible refine (impl_LastStop.calls kj10 _ _ t499 t502 t503 t538 t539 _ ?side1 ?side2 A64.out).mono ?_); (case side1 => repeat (first | exact (jJ HO_3.out).2.2 | (with_reducible refine jR ?_ _) | (with_reducible refine jQ ?_ _) | (with_reducible refine jS ?_))); (case side2 => exact (jJ HO_3.out).2.1); rintro e w65 ⟨rfl, hb⟩; refine ⟨_, rfl, ?_⟩; have n0_ := jA (jZ (zo HO_3) hb); have n1_ := jA (jZ (zo HO_5) hb); have n2_ := jA (jZ (zo HO_8) hb); have n3_ := jA (jZ (zo HO_9) hb); have n4_ := jA (jZ (zo HO_13) hb); have n5_ := jA (jZ (zo HO_17) hb); have n6_ := jA (jV (zb0 HB) hb); clear HO_3; clear HO_5; clear HO_8; clear HO_9; clear HO_13; clear HO_17; clear HB; have HO_3 := n0_; have HO_5 := n1_; have HO_8 := n2_; have HO_9 := n3_; have HO_13 := n4_; have HO_17 := n5_; have HB := n6_; clear n0_ n1_ n2_ n3_ n4_ n5_ n6_; (try clear hb); (try clear hb2); (try clear hk); (try clear hi)))
      go_loopg [23] kj10 (fun kq v23 w' => ∃ (x23_2 : Int), v23 = .int .i64 x23_2 ∧ Aside0 (laws_FnStops.l0 kq t500 t501 t503 t504 t511 t519 t527 t538 t539 x23_2 = some r) ∧ Aside0 (kq ≤ kj10) ∧ Aside0 (Kd.R k59 59 w' w.heap.size (fun _ => True) (.slice Ao14 t501.length co14) t501) ∧ Aside0 (Kd.R (Kd.int .i64) 2 w' w.heap.size (fun k_ => some k_ ≠ (v513 : Value).ownBlock ∧ some k_ ≠ (v521 : Value).ownBlock ∧ some k_ ≠ (v529 : Value).ownBlock) (.slice Ao15 t504.length co15) t504) ∧ Aside0 (Kd.R (Kd.int .i64) 2 w' w.heap.size (fun k_ => some k_ ≠ ((.slice Ao15 t504.length co15) : Value).ownBlock ∧ some k_ ≠ (v521 : Value).ownBlock ∧ some k_ ≠ (v529 : Value).ownBlock) v513 t511) ∧ Aside0 (Kd.R (Kd.int .i64) 2 w' w.heap.size (fun k_ => some k_ ≠ ((.slice Ao15 t504.length co15) : Value).ownBlock ∧ some k_ ≠ (v513 : Value).ownBlock ∧ some k_ ≠ (v529 : Value).ownBlock) v521 t519) ∧ Aside0 (Kd.R (Kd.int .i64) 2 w' w.heap.size (fun k_ => some k_ ≠ ((.slice Ao15 t504.length co15) : Value).ownBlock ∧ some k_ ≠ (v513 : Value).ownBlock ∧ some k_ ≠ (v521 : Value).ownBlock) v529 t527) ∧ Aside0 (Below w.heap.size w w'))
      case atStart => exact ⟨(0), zz, H', ⟨Nat.le_refl _⟩, ⟨by (with_reducible repeat (first | apply jH | apply jG | apply jK)); exact HO_5.out⟩, ⟨by (with_reducible repeat (first | apply jH | apply jG | apply jK)); exact HO_8.out⟩, ⟨by (with_reducible repeat (first | apply jH | apply jG | apply jK)); exact HO_9.out⟩, ⟨by (with_reducible repeat (first | apply jH | apply jG | apply jK)); exact HO_13.out⟩, ⟨by (with_reducible repeat (first | apply jH | apply jG | apply jK)); exact HO_17.out⟩, ⟨zb0 HB⟩⟩
      case round =>
       clear H'
       try clear c1
       try clear c2
       try clear p2
       try clear c3
       try clear c4
       try clear c6
       try clear c9
       try clear c14
       try clear c22
       try clear c22b0
       try clear c22b1
       try clear c24
       try clear c25
       try clear c25b0
       try clear c25b1
       try clear c27
       try clear c28
       try clear c28b0
       try clear c28b1
       try clear c30
       try clear c31
       try clear c31b0
       try clear c31b1
       try clear c37
       try clear c40
       try clear c44
       try clear c45
       try clear c46
       try clear c47
       try clear c48
       try clear c62
       try clear c63
       try clear c63b0
       try clear c63b1
       try clear p2
       obtain ⟨x23_2, rfl, HA, HK2, HO_5, HO_8, HO_9, HO_13, HO_17, HB⟩ := hrel
       cases gk with
       | zero => exact absurd HA.out (by simp [laws_FnStops.l0])
       | succ k2 =>
        have H := HA.out
        clear HA
        simp only [laws_FnStops.l0] at H
        by_cases c66 : x23_2 < (t511.length : Int)
        ·as_aux_lemma =>
         rw [if_pos c66] at H
         have c66b0 : decide (x23_2 < (t511.length : Int)) = true := jP c66
         clear c66
         by_cases c67 : 0 ≤ x23_2
         ·as_aux_lemma =>
          rw [if_pos c67] at H
          have c67b0 : decide (0 ≤ x23_2) = true := jP c67
          clear c67
          replace H := jD.mp H
          obtain ⟨t541, A680, H⟩ := H
          replace H : (if t541 = true then (some false) else (if 0 ≤ (rd t511 x23_2) then (if (rd t511 x23_2) < (t504.length : Int) then (if (rd t504 (rd t511 x23_2)) < t503 then (some false) else (if (rd t504 (rd t511 x23_2)) ≥ t538 then (some false) else (laws_FnStops.l0 k2 t500 t501 t503 t504 t511 t519 t527 t538 t539 (wrap64 (x23_2 + 1))))) else (none)) else (none))) = some r := H
          have A68 := jA A680
          clear A680
          by_cases c69 : t541 = true
          ·subst c69
           have H1 : (some false) = some r := by rw [if_pos rfl] at H; exact H
           clear H
           have H := H1
           clear H1
           obtain rfl := jW H
           obtain ⟨Ao70, co70, eo70⟩ := Kd.R_slice HO_9.out
           subst eo70
           have p540 : 0 ≤ (x23_2 : Int) := jB za
           have q540 : x23_2 < (t511.length : Int) := jB za
           obtain ⟨ad540, e540, hx540_0⟩ := jh (jJ HO_9.out).2.2 x23_2 p540 q540
           cases e540
           replace p540 := eq_true p540
           replace q540 := eq_true q540
           obtain ⟨Ao71, co71, eo71⟩ := Kd.R_slice HO_13.out
           subst eo71
           go_wp2_with (first | ((with_reducible refine jN (f := 34) rfl ?_); refine goesL_ (some 158) rfl rfl Try.func34 zr rfl #[.slice Ao71 t519.length co71, .int .i64 (rd t511 x23_2)] rfl zm ?_; (with_reducible refine (laws_hasInt.calls k2 _ _ t519 (rd t511 x23_2) true _ ?side1 ?side2 A68.out).mono ?_); (case side1 => repeat (first | exact (jJ HO_13.out).2.2 | (with_reducible refine jR ?_ _) | (with_reducible refine jQ ?_ _) | (with_reducible refine jS ?_))); (case side2 => exact (jJ HO_13.out).2.1); rintro e w' ⟨rfl, ⟨nd, rfl⟩⟩; refine ⟨_, rfl, ?_⟩))
           go_ret
           exact ⟨by first | rfl | (simp [errW_none, errW_some] <;> rfl) | (simp [*, errW_none, errW_some] <;> rfl), zb0 HB⟩
          ·as_aux_lemma =>
           replace c69 := Bool.eq_false_iff.mpr c69
           subst c69
           have H1 : (if 0 ≤ (rd t511 x23_2) then (if (rd t511 x23_2) < (t504.length : Int) then (if (rd t504 (rd t511 x23_2)) < t503 then (some false) else (if (rd t504 (rd t511 x23_2)) ≥ t538 then (some false) else (laws_FnStops.l0 k2 t500 t501 t503 t504 t511 t519 t527 t538 t539 (wrap64 (x23_2 + 1))))) else (none)) else (none)) = some r := by rw [if_neg (show ¬ (false = true) by decide)] at H; exact H
           clear H
           have H := H1
           clear H1
           by_cases c72 : 0 ≤ (rd t511 x23_2)
           ·as_aux_lemma =>
            rw [if_pos c72] at H
            have c72b0 : decide (0 ≤ (rd t511 x23_2)) = true := jP c72
            clear c72
            by_cases c73 : (rd t511 x23_2) < (t504.length : Int)
            ·as_aux_lemma =>
             rw [if_pos c73] at H
             have c73b0 : decide ((rd t511 x23_2) < (t504.length : Int)) = true := jP c73
             clear c73
             by_cases c74 : (rd t504 (rd t511 x23_2)) < t503
             ·rw [if_pos c74] at H
              have c74b0 : decide ((rd t504 (rd t511 x23_2)) < t503) = true := jP c74
              clear c74
              obtain rfl := jW H
              obtain ⟨Ao75, co75, eo75⟩ := Kd.R_slice HO_9.out
              subst eo75
              have p540 : 0 ≤ (x23_2 : Int) := jB za
              have q540 : x23_2 < (t511.length : Int) := jB za
              obtain ⟨ad540, e540, hx540_0⟩ := jh (jJ HO_9.out).2.2 x23_2 p540 q540
              cases e540
              replace p540 := eq_true p540
              replace q540 := eq_true q540
              obtain ⟨Ao76, co76, eo76⟩ := Kd.R_slice HO_13.out
              subst eo76
              go_wp2_with (first | ((with_reducible refine jN (f := 34) rfl ?_); refine goesL_ (some 158) rfl rfl Try.func34 zr rfl #[.slice Ao76 t519.length co76, .int .i64 (rd t511 x23_2)] rfl zm ?_; (with_reducible refine (laws_hasInt.calls k2 _ _ t519 (rd t511 x23_2) false _ ?side1 ?side2 A68.out).mono ?_); (case side1 => repeat (first | exact (jJ HO_13.out).2.2 | (with_reducible refine jR ?_ _) | (with_reducible refine jQ ?_ _) | (with_reducible refine jS ?_))); (case side2 => exact (jJ HO_13.out).2.1); rintro e w' ⟨rfl, ⟨nd, rfl⟩⟩; refine ⟨_, rfl, ?_⟩; have p542 : 0 ≤ (x23_2 : Int) := jB za; have q542 : x23_2 < (t511.length : Int) := jB za; obtain ⟨ad542, e542, hx542_0⟩ := jh (jJ HO_9.out).2.2 x23_2 p542 q542; obtain rfl : ad540 = ad542 := (by injection e542); replace p542 := eq_true p542; replace q542 := eq_true q542; have p543 : 0 ≤ ((rd t511 x23_2) : Int) := jB za; have q543 : (rd t511 x23_2) < (t504.length : Int) := jB za; obtain ⟨ad543, e543, hx543_0⟩ := jh (jJ HO_8.out).2.2 (rd t511 x23_2) p543 q543; cases e543; replace p543 := eq_true p543; replace q543 := eq_true q543))
              go_ret
              exact ⟨by first | rfl | (simp [errW_none, errW_some] <;> rfl) | (simp [*, errW_none, errW_some] <;> rfl), zb0 HB⟩
             ·as_aux_lemma =>
              rw [if_neg c74] at H
              have c74b0 : decide ((rd t504 (rd t511 x23_2)) < t503) = false := ja c74
              clear c74
              by_cases c77 : (rd t504 (rd t511 x23_2)) ≥ t538
              ·rw [if_pos c77] at H
               have c77b0 : decide (t538 ≤ (rd t504 (rd t511 x23_2))) = true := jP c77
               clear c77
               obtain rfl := jW H
               obtain ⟨Ao78, co78, eo78⟩ := Kd.R_slice HO_9.out
               subst eo78
               have p540 : 0 ≤ (x23_2 : Int) := jB za
               have q540 : x23_2 < (t511.length : Int) := jB za
               obtain ⟨ad540, e540, hx540_0⟩ := jh (jJ HO_9.out).2.2 x23_2 p540 q540
               cases e540
               replace p540 := eq_true p540
               replace q540 := eq_true q540
               obtain ⟨Ao79, co79, eo79⟩ := Kd.R_slice HO_13.out
               subst eo79
               go_wp2_with (first | ((with_reducible refine jN (f := 34) rfl ?_); refine goesL_ (some 158) rfl rfl Try.func34 zr rfl #[.slice Ao79 t519.length co79, .int .i64 (rd t511 x23_2)] rfl zm ?_; (with_reducible refine (laws_hasInt.calls k2 _ _ t519 (rd t511 x23_2) false _ ?side1 ?side2 A68.out).mono ?_); (case side1 => repeat (first | exact (jJ HO_13.out).2.2 | (with_reducible refine jR ?_ _) | (with_reducible refine jQ ?_ _) | (with_reducible refine jS ?_))); (case side2 => exact (jJ HO_13.out).2.1); rintro e w' ⟨rfl, ⟨nd, rfl⟩⟩; refine ⟨_, rfl, ?_⟩; have p542 : 0 ≤ (x23_2 : Int) := jB za; have q542 : x23_2 < (t511.length : Int) := jB za; obtain ⟨ad542, e542, hx542_0⟩ := jh (jJ HO_9.out).2.2 x23_2 p542 q542; obtain rfl : ad540 = ad542 := (by injection e542); replace p542 := eq_true p542; replace q542 := eq_true q542; have p543 : 0 ≤ ((rd t511 x23_2) : Int) := jB za; have q543 : (rd t511 x23_2) < (t504.length : Int) := jB za; obtain ⟨ad543, e543, hx543_0⟩ := jh (jJ HO_8.out).2.2 (rd t511 x23_2) p543 q543; cases e543; replace p543 := eq_true p543; replace q543 := eq_true q543; have p544 : 0 ≤ (x23_2 : Int) := jB za; have q544 : x23_2 < (t511.length : Int) := jB za; obtain ⟨ad544, e544, hx544_0⟩ := jh (jJ HO_9.out).2.2 x23_2 p544 q544; obtain rfl : ad540 = ad544 := (by injection e544); replace p544 := eq_true p544; replace q544 := eq_true q544; have p545 : 0 ≤ ((rd t511 x23_2) : Int) := jB za; have q545 : (rd t511 x23_2) < (t504.length : Int) := jB za; obtain ⟨ad545, e545, hx545_0⟩ := jh (jJ HO_8.out).2.2 (rd t511 x23_2) p545 q545; obtain rfl : ad543 = ad545 := (by injection e545); replace p545 := eq_true p545; replace q545 := eq_true q545))
               go_ret
               exact ⟨by first | rfl | (simp [errW_none, errW_some] <;> rfl) | (simp [*, errW_none, errW_some] <;> rfl), zb0 HB⟩
              ·rw [if_neg c77] at H
               have c77b0 : decide (t538 ≤ (rd t504 (rd t511 x23_2))) = false := ja c77
               clear c77
               have H' := jA H
               clear H
               obtain ⟨Ao80, co80, eo80⟩ := Kd.R_slice HO_9.out
               subst eo80
               have p540 : 0 ≤ (x23_2 : Int) := jB za
               have q540 : x23_2 < (t511.length : Int) := jB za
               obtain ⟨ad540, e540, hx540_0⟩ := jh (jJ HO_9.out).2.2 x23_2 p540 q540
               cases e540
               replace p540 := eq_true p540
               replace q540 := eq_true q540
               obtain ⟨Ao81, co81, eo81⟩ := Kd.R_slice HO_13.out
               subst eo81
               go_wp2_with (first | ((with_reducible refine jN (f := 34) rfl ?_); refine goesL_ (some 158) rfl rfl Try.func34 zr rfl #[.slice Ao81 t519.length co81, .int .i64 (rd t511 x23_2)] rfl zm ?_; (with_reducible refine (laws_hasInt.calls k2 _ _ t519 (rd t511 x23_2) false _ ?side1 ?side2 A68.out).mono ?_); (case side1 => repeat (first | exact (jJ HO_13.out).2.2 | (with_reducible refine jR ?_ _) | (with_reducible refine jQ ?_ _) | (with_reducible refine jS ?_))); (case side2 => exact (jJ HO_13.out).2.1); rintro e w' ⟨rfl, ⟨nd, rfl⟩⟩; refine ⟨_, rfl, ?_⟩; have p542 : 0 ≤ (x23_2 : Int) := jB za; have q542 : x23_2 < (t511.length : Int) := jB za; obtain ⟨ad542, e542, hx542_0⟩ := jh (jJ HO_9.out).2.2 x23_2 p542 q542; obtain rfl : ad540 = ad542 := (by injection e542); replace p542 := eq_true p542; replace q542 := eq_true q542; have p543 : 0 ≤ ((rd t511 x23_2) : Int) := jB za; have q543 : (rd t511 x23_2) < (t504.length : Int) := jB za; obtain ⟨ad543, e543, hx543_0⟩ := jh (jJ HO_8.out).2.2 (rd t511 x23_2) p543 q543; cases e543; replace p543 := eq_true p543; replace q543 := eq_true q543; have p544 : 0 ≤ (x23_2 : Int) := jB za; have q544 : x23_2 < (t511.length : Int) := jB za; obtain ⟨ad544, e544, hx544_0⟩ := jh (jJ HO_9.out).2.2 x23_2 p544 q544; obtain rfl : ad540 = ad544 := (by injection e544); replace p544 := eq_true p544; replace q544 := eq_true q544; have p545 : 0 ≤ ((rd t511 x23_2) : Int) := jB za; have q545 : (rd t511 x23_2) < (t504.length : Int) := jB za; obtain ⟨ad545, e545, hx545_0⟩ := jh (jJ HO_8.out).2.2 (rd t511 x23_2) p545 q545; obtain rfl : ad543 = ad545 := (by injection e545); replace p545 := eq_true p545; replace q545 := eq_true q545))
               go_roundg k2
               case measure => have := HJ10.out; have := HK2.out; omega
               case rel => exact ⟨(wrap64 (x23_2 + 1)), zz, H', ⟨by have := HJ10.out; have := HK2.out; omega⟩, ⟨by (with_reducible repeat (first | apply jH | apply jG | apply jK)); exact HO_5.out⟩, ⟨by (with_reducible repeat (first | apply jH | apply jG | apply jK)); exact HO_8.out⟩, ⟨by (with_reducible repeat (first | apply jH | apply jG | apply jK)); exact HO_9.out⟩, ⟨by (with_reducible repeat (first | apply jH | apply jG | apply jK)); exact HO_13.out⟩, ⟨by (with_reducible repeat (first | apply jH | apply jG | apply jK)); exact HO_17.out⟩, ⟨zb0 HB⟩⟩
            ·rw [if_neg c73] at H
             exact absurd H (by simp)
           ·rw [if_neg c72] at H
            exact absurd H (by simp)
         ·rw [if_neg c67] at H
          exact absurd H (by simp)
        ·as_aux_lemma =>
         rw [if_neg c66] at H
         have c66b0 : decide (x23_2 < (t511.length : Int)) = false := ja c66
         clear c66
         have H' := jA H
         clear H
         obtain ⟨Ao82, co82, eo82⟩ := Kd.R_slice HO_9.out
         subst eo82
         go_wp2
         go_loopg [24] k2 (fun kq v24 w' => ∃ (x24_3 : Int), v24 = .int .i64 x24_3 ∧ Aside0 (laws_FnStops.l1 kq t500 t501 t503 t504 t519 t527 t538 t539 x24_3 = some r) ∧ Aside0 (kq ≤ k2) ∧ Aside0 (Kd.R k59 59 w' w.heap.size (fun _ => True) (.slice Ao14 t501.length co14) t501) ∧ Aside0 (Kd.R (Kd.int .i64) 2 w' w.heap.size (fun k_ => some k_ ≠ (v521 : Value).ownBlock ∧ some k_ ≠ (v529 : Value).ownBlock) (.slice Ao15 t504.length co15) t504) ∧ Aside0 (Kd.R (Kd.int .i64) 2 w' w.heap.size (fun k_ => some k_ ≠ ((.slice Ao15 t504.length co15) : Value).ownBlock ∧ some k_ ≠ (v529 : Value).ownBlock) v521 t519) ∧ Aside0 (Kd.R (Kd.int .i64) 2 w' w.heap.size (fun k_ => some k_ ≠ ((.slice Ao15 t504.length co15) : Value).ownBlock ∧ some k_ ≠ (v521 : Value).ownBlock) v529 t527) ∧ Aside0 (Below w.heap.size w w'))
         case atStart => exact ⟨(0), zz, H', ⟨Nat.le_refl _⟩, ⟨by (with_reducible repeat (first | apply jH | apply jG | apply jK)); exact HO_5.out⟩, ⟨by (with_reducible repeat (first | apply jH | apply jG | apply jK)); exact Kd.R_mono HO_8.out (fun _ hk => ⟨hk.2.1, hk.2.2⟩)⟩, ⟨by (with_reducible repeat (first | apply jH | apply jG | apply jK)); exact Kd.R_mono HO_13.out (fun _ hk => ⟨hk.1, hk.2.2⟩)⟩, ⟨by (with_reducible repeat (first | apply jH | apply jG | apply jK)); exact Kd.R_mono HO_17.out (fun _ hk => ⟨hk.1, hk.2.2⟩)⟩, ⟨zb0 HB⟩⟩
         case round =>
          clear H'
          try clear c1
          try clear c2
          try clear p2
          try clear c3
          try clear c4
          try clear p5
          try clear q5
          try clear hx5
          try clear c6
          try clear p6
          try clear c7
          try clear c9
          try clear c14
          try clear c22
          try clear c22b0
          try clear c22b1
          try clear c24
          try clear c25
          try clear c25b0
          try clear c25b1
          try clear c27
          try clear c28
          try clear c28b0
          try clear c28b1
          try clear c30
          try clear c31
          try clear c31b0
          try clear c31b1
          try clear c34
          try clear c37
          try clear c40
          try clear c44
          try clear c45
          try clear c46
          try clear c47
          try clear c48
          try clear p54
          try clear q54
          try clear hx54
          try clear c62
          try clear c63
          try clear c63b0
          try clear c63b1
          try clear p64
          try clear c66
          try clear c66b0
          try clear c67
          try clear c67b0
          try clear c69
          try clear c72
          try clear c72b0
          try clear c73
          try clear c73b0
          try clear c74
          try clear c74b0
          try clear c77
          try clear c77b0
          try clear hx540_0
          try clear hx542_0
          try clear hx543_0
          try clear hx544_0
          try clear hx545_0
          try clear p2
          try clear p540
          try clear p542
          try clear p543
          try clear p544
          try clear p545
          try clear q540
          try clear q542
          try clear q543
          try clear q544
          try clear q545
          obtain ⟨x24_3, rfl, HA, HK3, HO_5, HO_8, HO_13, HO_17, HB⟩ := hrel
          cases gk with
          | zero => exact absurd HA.out (by simp [laws_FnStops.l1])
          | succ k3 =>
           have H := HA.out
           clear HA
           simp only [laws_FnStops.l1] at H
           by_cases c83 : x24_3 < (t501.length : Int)
           ·as_aux_lemma =>
            rw [if_pos c83] at H
            have c83b0 : decide (x24_3 < (t501.length : Int)) = true := jP c83
            clear c83
            by_cases c84 : 0 ≤ x24_3
            ·as_aux_lemma =>
             rw [if_pos c84] at H
             have c84b0 : decide (0 ≤ x24_3) = true := jP c84
             clear c84
             by_cases c85 : 0 ≤ ((rd_T59 t501 x24_3).f0)
             ·as_aux_lemma =>
              rw [if_pos c85] at H
              have c85b0 : decide (0 ≤ ((rd_T59 t501 x24_3).f0)) = true := jP c85
              clear c85
              by_cases c86 : ((rd_T59 t501 x24_3).f0) < (t527.length : Int)
              ·as_aux_lemma =>
               rw [if_pos c86] at H
               have c86b0 : decide (((rd_T59 t501 x24_3).f0) < (t527.length : Int)) = true := jP c86
               clear c86
               by_cases c87 : (rd t527 ((rd_T59 t501 x24_3).f0)) ≥ t503
               ·rw [if_pos c87] at H
                have c87b0 : decide (t503 ≤ (rd t527 ((rd_T59 t501 x24_3).f0))) = true := jP c87
                clear c87
                obtain rfl := jW H
                have p546 : 0 ≤ (x24_3 : Int) := jB za
                have q546 : x24_3 < (t501.length : Int) := jB za
                obtain ⟨ad546, e546, hx546_0, hx546_1, hx546_2⟩ := at_T59 (jJ HO_5.out).2.2 x24_3 p546 q546
                cases e546
                replace p546 := eq_true p546
                replace q546 := eq_true q546
                obtain ⟨Ao88, co88, eo88⟩ := Kd.R_slice HO_17.out
                subst eo88
                have p547 : 0 ≤ (((rd_T59 t501 x24_3).f0) : Int) := jB za
                have q547 : ((rd_T59 t501 x24_3).f0) < (t527.length : Int) := jB za
                obtain ⟨ad547, e547, hx547_0⟩ := jh (jJ HO_17.out).2.2 ((rd_T59 t501 x24_3).f0) p547 q547
                cases e547
                replace p547 := eq_true p547
                replace q547 := eq_true q547
                go_wp2
                go_ret
                exact ⟨by first | rfl | (simp [errW_none, errW_some] <;> rfl) | (simp [*, errW_none, errW_some] <;> rfl), zb0 HB⟩
               ·as_aux_lemma =>
                rw [if_neg c87] at H
                have c87b0 : decide (t503 ≤ (rd t527 ((rd_T59 t501 x24_3).f0))) = false := ja c87
                clear c87
                by_cases c89 : ((rd_T59 t501 x24_3).f0) < (t504.length : Int)
                ·as_aux_lemma =>
                 rw [if_pos c89] at H
                 have c89b0 : decide (((rd_T59 t501 x24_3).f0) < (t504.length : Int)) = true := jP c89
                 clear c89
                 by_cases c90 : (rd t504 ((rd_T59 t501 x24_3).f0)) ≥ 0
                 ·as_aux_lemma =>
                  rw [if_pos c90] at H
                  have c90b0 : decide (0 ≤ (rd t504 ((rd_T59 t501 x24_3).f0))) = true := jP c90
                  clear c90
                  by_cases c91 : (rd t504 ((rd_T59 t501 x24_3).f0)) ≥ t538
                  ·as_aux_lemma =>
                   rw [if_pos c91] at H
                   have c91b0 : decide (t538 ≤ (rd t504 ((rd_T59 t501 x24_3).f0))) = true := jP c91
                   clear c91
                   replace H := jD.mp H
                   obtain ⟨t550, A920, H⟩ := H
                   replace H : (if t550 = true then (laws_FnStops.l1 k3 t500 t501 t503 t504 t519 t527 t538 t539 (wrap64 (x24_3 + 1))) else (some false)) = some r := H
                   have A92 := jA A920
                   clear A920
                   by_cases c93 : t550 = true
                   ·as_aux_lemma =>
                    subst c93
                    have H1 : (laws_FnStops.l1 k3 t500 t501 t503 t504 t519 t527 t538 t539 (wrap64 (x24_3 + 1))) = some r := by rw [if_pos rfl] at H; exact H
                    clear H
                    have H := H1
                    clear H1
                    have H' := jA H
                    clear H
                    have p546 : 0 ≤ (x24_3 : Int) := jB za
                    have q546 : x24_3 < (t501.length : Int) := jB za
                    obtain ⟨ad546, e546, hx546_0, hx546_1, hx546_2⟩ := at_T59 (jJ HO_5.out).2.2 x24_3 p546 q546
                    cases e546
                    replace p546 := eq_true p546
                    replace q546 := eq_true q546
                    obtain ⟨Ao94, co94, eo94⟩ := Kd.R_slice HO_17.out
                    subst eo94
                    have p547 : 0 ≤ (((rd_T59 t501 x24_3).f0) : Int) := jB za
                    have q547 : ((rd_T59 t501 x24_3).f0) < (t527.length : Int) := jB za
                    obtain ⟨ad547, e547, hx547_0⟩ := jh (jJ HO_17.out).2.2 ((rd_T59 t501 x24_3).f0) p547 q547
                    cases e547
                    replace p547 := eq_true p547
                    replace q547 := eq_true q547
                    have p548 : 0 ≤ (((rd_T59 t501 x24_3).f0) : Int) := jB za
                    have q548 : ((rd_T59 t501 x24_3).f0) < (t504.length : Int) := jB za
                    obtain ⟨ad548, e548, hx548_0⟩ := jh (jJ HO_8.out).2.2 ((rd_T59 t501 x24_3).f0) p548 q548
                    cases e548
                    replace p548 := eq_true p548
                    replace q548 := eq_true q548
                    have p549 : 0 ≤ (((rd_T59 t501 x24_3).f0) : Int) := jB za
                    have q549 : ((rd_T59 t501 x24_3).f0) < (t504.length : Int) := jB za
                    obtain ⟨ad549, e549, hx549_0⟩ := jh (jJ HO_8.out).2.2 ((rd_T59 t501 x24_3).f0) p549 q549
                    obtain rfl : ad548 = ad549 := (by injection e549)
                    replace p549 := eq_true p549
                    replace q549 := eq_true q549
                    obtain ⟨Ao95, co95, eo95⟩ := Kd.R_slice HO_13.out
                    subst eo95
                    go_wp2_with (first | (go_at_call 34; (with_reducible refine (laws_hasInt.calls k3 _ _ t519 ((rd_T59 t501 x24_3).f0) true _ ?side1 ?side2 A92.out).mono ?_); (case side1 => repeat (first | exact (jJ HO_13.out).2.2 | (with_reducible refine jR ?_ _) | (with_reducible refine jQ ?_ _) | (with_reducible refine jS ?_))); (case side2 => exact (jJ HO_13.out).2.1); rintro e w' ⟨rfl, ⟨nd, rfl⟩⟩))
                    go_roundg k3
                    case measure => have := HJ10.out; have := HK2.out; have := HK3.out; omega
                    case rel => exact ⟨(wrap64 (x24_3 + 1)), zz, H', ⟨by have := HJ10.out; have := HK2.out; have := HK3.out; omega⟩, ⟨by (with_reducible repeat (first | apply jH | apply jG | apply jK)); exact HO_5.out⟩, ⟨by (with_reducible repeat (first | apply jH | apply jG | apply jK)); exact HO_8.out⟩, ⟨by (with_reducible repeat (first | apply jH | apply jG | apply jK)); exact HO_13.out⟩, ⟨by (with_reducible repeat (first | apply jH | apply jG | apply jK)); exact HO_17.out⟩, ⟨zb0 HB⟩⟩
                   ·as_aux_lemma =>
                    replace c93 := Bool.eq_false_iff.mpr c93
                    subst c93
                    have H1 : (some false) = some r := by rw [if_neg (show ¬ (false = true) by decide)] at H; exact H
                    clear H
                    have H := H1
                    clear H1
                    obtain rfl := jW H
                    have p546 : 0 ≤ (x24_3 : Int) := jB za
                    have q546 : x24_3 < (t501.length : Int) := jB za
                    obtain ⟨ad546, e546, hx546_0, hx546_1, hx546_2⟩ := at_T59 (jJ HO_5.out).2.2 x24_3 p546 q546
                    cases e546
                    replace p546 := eq_true p546
                    replace q546 := eq_true q546
                    obtain ⟨Ao96, co96, eo96⟩ := Kd.R_slice HO_17.out
                    subst eo96
                    have p547 : 0 ≤ (((rd_T59 t501 x24_3).f0) : Int) := jB za
                    have q547 : ((rd_T59 t501 x24_3).f0) < (t527.length : Int) := jB za
                    obtain ⟨ad547, e547, hx547_0⟩ := jh (jJ HO_17.out).2.2 ((rd_T59 t501 x24_3).f0) p547 q547
                    cases e547
                    replace p547 := eq_true p547
                    replace q547 := eq_true q547
                    have p548 : 0 ≤ (((rd_T59 t501 x24_3).f0) : Int) := jB za
                    have q548 : ((rd_T59 t501 x24_3).f0) < (t504.length : Int) := jB za
                    obtain ⟨ad548, e548, hx548_0⟩ := jh (jJ HO_8.out).2.2 ((rd_T59 t501 x24_3).f0) p548 q548
                    cases e548
                    replace p548 := eq_true p548
                    replace q548 := eq_true q548
                    have p549 : 0 ≤ (((rd_T59 t501 x24_3).f0) : Int) := jB za
                    have q549 : ((rd_T59 t501 x24_3).f0) < (t504.length : Int) := jB za
                    obtain ⟨ad549, e549, hx549_0⟩ := jh (jJ HO_8.out).2.2 ((rd_T59 t501 x24_3).f0) p549 q549
                    obtain rfl : ad548 = ad549 := (by injection e549)
                    replace p549 := eq_true p549
                    replace q549 := eq_true q549
                    obtain ⟨Ao97, co97, eo97⟩ := Kd.R_slice HO_13.out
                    subst eo97
                    go_wp2_with (first | (go_at_call 34; (with_reducible refine (laws_hasInt.calls k3 _ _ t519 ((rd_T59 t501 x24_3).f0) false _ ?side1 ?side2 A92.out).mono ?_); (case side1 => repeat (first | exact (jJ HO_13.out).2.2 | (with_reducible refine jR ?_ _) | (with_reducible refine jQ ?_ _) | (with_reducible refine jS ?_))); (case side2 => exact (jJ HO_13.out).2.1); rintro e w' ⟨rfl, ⟨nd, rfl⟩⟩))
                    go_ret
                    exact ⟨by first | rfl | (simp [errW_none, errW_some] <;> rfl) | (simp [*, errW_none, errW_some] <;> rfl), zb0 HB⟩
                  ·as_aux_lemma =>
                   rw [if_neg c91] at H
                   have c91b0 : decide (t538 ≤ (rd t504 ((rd_T59 t501 x24_3).f0))) = false := ja c91
                   clear c91
                   have H' := jA H
                   clear H
                   have p546 : 0 ≤ (x24_3 : Int) := jB za
                   have q546 : x24_3 < (t501.length : Int) := jB za
                   obtain ⟨ad546, e546, hx546_0, hx546_1, hx546_2⟩ := at_T59 (jJ HO_5.out).2.2 x24_3 p546 q546
                   cases e546
                   replace p546 := eq_true p546
                   replace q546 := eq_true q546
                   obtain ⟨Ao98, co98, eo98⟩ := Kd.R_slice HO_17.out
                   subst eo98
                   have p547 : 0 ≤ (((rd_T59 t501 x24_3).f0) : Int) := jB za
                   have q547 : ((rd_T59 t501 x24_3).f0) < (t527.length : Int) := jB za
                   obtain ⟨ad547, e547, hx547_0⟩ := jh (jJ HO_17.out).2.2 ((rd_T59 t501 x24_3).f0) p547 q547
                   cases e547
                   replace p547 := eq_true p547
                   replace q547 := eq_true q547
                   have p548 : 0 ≤ (((rd_T59 t501 x24_3).f0) : Int) := jB za
                   have q548 : ((rd_T59 t501 x24_3).f0) < (t504.length : Int) := jB za
                   obtain ⟨ad548, e548, hx548_0⟩ := jh (jJ HO_8.out).2.2 ((rd_T59 t501 x24_3).f0) p548 q548
                   cases e548
                   replace p548 := eq_true p548
                   replace q548 := eq_true q548
                   have p549 : 0 ≤ (((rd_T59 t501 x24_3).f0) : Int) := jB za
                   have q549 : ((rd_T59 t501 x24_3).f0) < (t504.length : Int) := jB za
                   obtain ⟨ad549, e549, hx549_0⟩ := jh (jJ HO_8.out).2.2 ((rd_T59 t501 x24_3).f0) p549 q549
                   obtain rfl : ad548 = ad549 := (by injection e549)
                   replace p549 := eq_true p549
                   replace q549 := eq_true q549
                   go_wp2
                   go_roundg k3
                   case measure => have := HJ10.out; have := HK2.out; have := HK3.out; omega
                   case rel => exact ⟨(wrap64 (x24_3 + 1)), zz, H', ⟨by have := HJ10.out; have := HK2.out; have := HK3.out; omega⟩, ⟨by (with_reducible repeat (first | apply jH | apply jG | apply jK)); exact HO_5.out⟩, ⟨by (with_reducible repeat (first | apply jH | apply jG | apply jK)); exact HO_8.out⟩, ⟨by (with_reducible repeat (first | apply jH | apply jG | apply jK)); exact HO_13.out⟩, ⟨by (with_reducible repeat (first | apply jH | apply jG | apply jK)); exact HO_17.out⟩, ⟨zb0 HB⟩⟩
                 ·rw [if_neg c90] at H
                  have c90b0 : decide (0 ≤ (rd t504 ((rd_T59 t501 x24_3).f0))) = false := ja c90
                  clear c90
                  have H' := jA H
                  clear H
                  have p546 : 0 ≤ (x24_3 : Int) := jB za
                  have q546 : x24_3 < (t501.length : Int) := jB za
                  obtain ⟨ad546, e546, hx546_0, hx546_1, hx546_2⟩ := at_T59 (jJ HO_5.out).2.2 x24_3 p546 q546
                  cases e546
                  replace p546 := eq_true p546
                  replace q546 := eq_true q546
                  obtain ⟨Ao99, co99, eo99⟩ := Kd.R_slice HO_17.out
                  subst eo99
                  have p547 : 0 ≤ (((rd_T59 t501 x24_3).f0) : Int) := jB za
                  have q547 : ((rd_T59 t501 x24_3).f0) < (t527.length : Int) := jB za
                  obtain ⟨ad547, e547, hx547_0⟩ := jh (jJ HO_17.out).2.2 ((rd_T59 t501 x24_3).f0) p547 q547
                  cases e547
                  replace p547 := eq_true p547
                  replace q547 := eq_true q547
                  have p548 : 0 ≤ (((rd_T59 t501 x24_3).f0) : Int) := jB za
                  have q548 : ((rd_T59 t501 x24_3).f0) < (t504.length : Int) := jB za
                  obtain ⟨ad548, e548, hx548_0⟩ := jh (jJ HO_8.out).2.2 ((rd_T59 t501 x24_3).f0) p548 q548
                  cases e548
                  replace p548 := eq_true p548
                  replace q548 := eq_true q548
                  go_wp2
                  go_roundg k3
                  case measure => have := HJ10.out; have := HK2.out; have := HK3.out; omega
                  case rel => exact ⟨(wrap64 (x24_3 + 1)), zz, H', ⟨by have := HJ10.out; have := HK2.out; have := HK3.out; omega⟩, ⟨by (with_reducible repeat (first | apply jH | apply jG | apply jK)); exact HO_5.out⟩, ⟨by (with_reducible repeat (first | apply jH | apply jG | apply jK)); exact HO_8.out⟩, ⟨by (with_reducible repeat (first | apply jH | apply jG | apply jK)); exact HO_13.out⟩, ⟨by (with_reducible repeat (first | apply jH | apply jG | apply jK)); exact HO_17.out⟩, ⟨zb0 HB⟩⟩
                ·rw [if_neg c89] at H
                 exact absurd H (by simp)
              ·rw [if_neg c86] at H
               exact absurd H (by simp)
             ·rw [if_neg c85] at H
              exact absurd H (by simp)
            ·rw [if_neg c84] at H
             exact absurd H (by simp)
           ·rw [if_neg c83] at H
            have c83b0 : decide (x24_3 < (t501.length : Int)) = false := ja c83
            clear c83
            by_cases c100 : t539 = 0
            ·rw [if_pos c100] at H
             have c100b0 : (t539 == 0) = true := beq_iff_eq.mpr c100
             have c100b1 : (t539 != 0) = false := bne_eq_false_iff_eq.mpr c100
             clear c100
             obtain rfl := jW H
             obtain ⟨Ao101, co101, eo101⟩ := Kd.R_slice HO_17.out
             subst eo101
             go_wp2
             go_ret
             exact ⟨by first | rfl | (simp [errW_none, errW_some] <;> rfl) | (simp [*, errW_none, errW_some] <;> rfl), zb0 HB⟩
            ·rw [if_neg c100] at H
             have c100b0 : (t539 == 0) = false := beq_eq_false_iff_ne.mpr c100
             have c100b1 : (t539 != 0) = true := bne_iff_ne.mpr c100
             obtain rfl := jW H
             go_wp2
             go_ret
             exact ⟨by first | rfl | (simp [errW_none, errW_some] <;> rfl) | (simp [*, errW_none, errW_some] <;> rfl), zb0 HB⟩
     ·rw [if_neg c63] at H
      have c63b0 : (t512 == 0) = false := beq_eq_false_iff_ne.mpr c63
      have c63b1 : (t512 != 0) = true := bne_iff_ne.mpr c63
      obtain rfl := jW H
      go_wp2
      go_ret
      exact ⟨by first | rfl | (simp [errW_none, errW_some] <;> rfl) | (simp [*, errW_none, errW_some] <;> rfl), zb0 HB⟩

/-- THE ONE PURE STATEMENT of laws_FnStops: yours. -/
def laws_FnStops.Pure : Prop := ∀ (l0 : List Int), l0.length ≤ maxLen → l0.length * 1 ≤ 140737488351232 → (∀ x ∈ l0, (Lit.int .u8 x).wf = true) → ∃ k, laws_FnStops.f k l0 = some true
theorem laws_FnStops.walk (P : laws_FnStops.Pure) (a0 : Option Addr) (len0 cap0 : Nat) (z0 : List Int) (w : World) (w0 : (a0 = none ∧ len0 = 0 ∧ cap0 = 0 ∧ z0 = []) ∨ ∃ x, a0 = some x ∧ len0 ≤ cap0 ∧ cap0 ≤ maxLen ∧ z0.length = cap0 ∧ (∀ i, i < z0.length → w.cell? (x.add i) = some (.int .u8 (z0.getD i 0))) ∧ ∀ n ∈ z0, (Lit.int .u8 n).wf = true) (y0 : len0 * 1 ≤ 140737488351232) :
  Calls Try.prog 9 #[.slice a0 len0 cap0] w fun e w' => e = .returned (.bool true) ∧ Below w.heap.size w w' := by
 obtain ⟨l0, rfl, hr0, hm0, hw0, hc0⟩ := ReadsInt.ofRowC w0
 obtain ⟨k, h⟩ := P l0 hm0 y0 hw0
 refine (laws_FnStops.calls k _ _ l0 true w (Kd.C_of_reads (d := (0 : Int)) (h1 := fun _ => rfl) hr0) hc0 h).mono ?_
 rintro e w' ⟨rfl, hd⟩
 exact ⟨rfl, hd⟩

end Go.Proofs.Ytddejaomlnldiaa.PFnStops
