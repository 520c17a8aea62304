/- Functions and contracts that FnDepots reaches (10 of 11). -/
import Derived.Test.YtmhnkhealidjjaaQFnDepotsx8
namespace Go.Proofs.Ytmhnkhealidjjaa.PFnDepots
open Go.RowKit Go.Proofs.YtmhnkhealidjjaaW.PrintWords Go.Proofs.YtmhnkhealidjjaaW.PrintLast Go.Proofs.YtmhnkhealidjjaaW.PrintMore
attribute [local go_sem] max2_int min2_int max_two min_two max_three min_three max_four min_four   -- for this text's walks alone
set_option linter.unusedVariables false
set_option linter.unusedSimpArgs false

/-! ### spec_DrawMoveGrams: function 50 -/
def spec_DrawMoveGrams.j0 : Nat → List (S51) → Int → Int → Int → Bool → List Int → Int → Int → Option ((List (S51)) × Int × Int × Int)
 | 0, _, _, _, _, _, _, _, _ => none
 | k + 1, x7, x8, x9, x10, x37, x332000, x332001, x332002 => if x37 = true then (if 0 ≤ x9 then (if x9 < (x7.length : Int) then ((spec_l01Next.f x332000 x332001 x332002 2).bind fun bt356 => ((spec_l01Next.f x332000 bt356.2.1 bt356.2.2 x8).bind fun bt359 => (some (x7, x9, bt359.1, wrap64 (((rd_T51 x7 x9).f2) + bt356.1))))) else (none)) else (none)) else ((spec_l01Next.f x332000 x332001 x332002 x8).bind fun bt362 => (some (x7, x9, bt362.1, x10)))
def spec_DrawMoveGrams.f (k : Nat) (l0 : List Int) : Option ((List (S51)) × Int × Int × Int) := (spec_l01From.f k l0).bind fun bt328 => ((spec_l27Draw.f k bt328.1 bt328.2.1 bt328.2.2).bind fun bt332 => ((spec_l01Next.f bt328.1 bt332.2.1 bt332.2.2 12).bind fun bt337 => ((spec_l01Next.f bt328.1 bt337.2.1 bt337.2.2 (wrap64 ((bt332.1.length : Int) + (wrap64 (Int.tdiv bt337.1 11))))).bind fun bt340 => ((spec_l01Next.f bt328.1 bt340.2.1 bt340.2.2 2000).bind fun bt343 => ((spec_l01Pick.f bt328.1 bt343.2.1 bt343.2.2 (([bt343.1, 0, 100000000, 100000001, (-1)] : List Int))).bind fun bt349 => (if bt340.1 < (bt332.1.length : Int) then ((spec_l01Next.f bt328.1 bt349.2.1 bt349.2.2 2).bind fun bt352 => (spec_DrawMoveGrams.j0 k bt332.1 (wrap64 ((bt332.1.length : Int) + (wrap64 (Int.tdiv bt337.1 11)))) bt340.1 bt349.1 (bt352.1 == 0) bt328.1 bt352.2.1 bt352.2.2)) else (spec_DrawMoveGrams.j0 k bt332.1 (wrap64 ((bt332.1.length : Int) + (wrap64 (Int.tdiv bt337.1 11)))) bt340.1 bt349.1 false bt328.1 bt349.2.1 bt349.2.2)))))))
theorem spec_DrawMoveGrams.mono_l : ∀ k, (∀ y0 y1 y2 y3 y4 y5 y6 y7, LeO (spec_DrawMoveGrams.j0 k y0 y1 y2 y3 y4 y5 y6 y7) (spec_DrawMoveGrams.j0 (k + 1) y0 y1 y2 y3 y4 y5 y6 y7))
 | 0 => fun _ _ _ _ _ _ _ _ r h => by simp [spec_DrawMoveGrams.j0] at h
 | k + 1 => by
  have ih0 := spec_DrawMoveGrams.mono_l k
  ·intro y0 y1 y2 y3 y4 y5 y6 y7
   unfold spec_DrawMoveGrams.j0
   repeat' first
   | (with_reducible exact ih0 _ _ _ _ _ _ _ _)
   | (with_reducible exact spec_l01From.mono _ _)
   | (with_reducible exact spec_l27Draw.mono _ _ _ _)
   | (with_reducible exact LeO.refl _)
   | (with_reducible exact LeO.none _)
   | (with_reducible refine LeO.ite ?_ ?_)
   | (with_reducible refine LeO.bind ?_ (fun _ => ?_))
   | exact ih0 _ _ _ _ _ _ _ _
   | exact spec_l01From.mono _ _
   | exact spec_l27Draw.mono _ _ _ _
   | exact LeO.none _
   | refine LeO.ite ?_ ?_
   | refine LeO.bind ?_ (fun _ => ?_)
theorem spec_DrawMoveGrams.mono : ∀ a0 k, LeO (spec_DrawMoveGrams.f k a0) (spec_DrawMoveGrams.f (k + 1) a0) := by
 intro a0 k
 have ih0 := spec_DrawMoveGrams.mono_l k
 unfold spec_DrawMoveGrams.f
 repeat' first
   | (with_reducible exact ih0 _ _ _ _ _ _ _ _)
   | (with_reducible exact spec_l01From.mono _ _)
   | (with_reducible exact spec_l27Draw.mono _ _ _ _)
   | (with_reducible exact LeO.refl _)
   | (with_reducible exact LeO.none _)
   | (with_reducible refine LeO.ite ?_ ?_)
   | (with_reducible refine LeO.bind ?_ (fun _ => ?_))
   | exact ih0 _ _ _ _ _ _ _ _
   | exact spec_l01From.mono _ _
   | exact spec_l27Draw.mono _ _ _ _
   | exact LeO.none _
   | refine LeO.ite ?_ ?_
   | refine LeO.bind ?_ (fun _ => ?_)
def spec_DrawMoveGrams.T7 : Bool × List (List Nat × List Nat) := (true, [([], []), ([], []), ([0, 1], [0, 1]), ([2], [2]), ([3], [3]), ([], []), ([5], [5]), ([4, 6], [4, 6]), ([7, 6, 0, 1, 2, 3, 4, 5, 6, 7], [7])])
def spec_DrawMoveGrams.B7 : List Nat := [0, 0, 3, 7, 15, 0, 32, 127, 255]
theorem spec_DrawMoveGrams.tab7 : rtab .any (opsOf Try.f50 7) = spec_DrawMoveGrams.T7 := by kernel_rfl
theorem spec_DrawMoveGrams.bits7 : waitsOk spec_DrawMoveGrams.T7.2 spec_DrawMoveGrams.B7 = true := by kernel_rfl
set_option maxHeartbeats 8000000 in
set_option maxRecDepth 100000 in
theorem spec_DrawMoveGrams.calls (k : Nat) (A0 : Option Addr) (c0 : Nat) (l0 : List Int) (r1 : List (S51)) (r2 : Int) (r3 : Int) (r4 : Int) (w : World) (hr0 : Kd.C (Kd.int .u8) w A0 l0.length l0) (hc0 : l0.length ≤ c0) (h : spec_DrawMoveGrams.f k l0 = some (r1, r2, r3, r4)) :
  Calls Try.prog 50 #[.slice A0 l0.length c0] w fun e w' => ∃ v0_ : Value, e = .returned (.tuple #[v0_, .int .i64 r2, .int .i64 r3, .int .i64 r4]) ∧ Kd.R k51 51 w' w.heap.size (fun _ => True) v0_ r1 ∧ Below w.heap.size w w' := by
 have HR0 := jA hr0
 have HC0 := jA hc0
 clear hr0 hc0
 have HB := jA (Below.refl w.heap.size w)
 have H : ((spec_l01From.f k l0).bind fun bt328 => ((spec_l27Draw.f k bt328.1 bt328.2.1 bt328.2.2).bind fun bt332 => ((spec_l01Next.f bt328.1 bt332.2.1 bt332.2.2 12).bind fun bt337 => ((spec_l01Next.f bt328.1 bt337.2.1 bt337.2.2 (wrap64 ((bt332.1.length : Int) + (wrap64 (Int.tdiv bt337.1 11))))).bind fun bt340 => ((spec_l01Next.f bt328.1 bt340.2.1 bt340.2.2 2000).bind fun bt343 => ((spec_l01Pick.f bt328.1 bt343.2.1 bt343.2.2 (([bt343.1, 0, 100000000, 100000001, (-1)] : List Int))).bind fun bt349 => (if bt340.1 < (bt332.1.length : Int) then ((spec_l01Next.f bt328.1 bt349.2.1 bt349.2.2 2).bind fun bt352 => (spec_DrawMoveGrams.j0 k bt332.1 (wrap64 ((bt332.1.length : Int) + (wrap64 (Int.tdiv bt337.1 11)))) bt340.1 bt349.1 (bt352.1 == 0) bt328.1 bt352.2.1 bt352.2.2)) else (spec_DrawMoveGrams.j0 k bt332.1 (wrap64 ((bt332.1.length : Int) + (wrap64 (Int.tdiv bt337.1 11)))) bt340.1 bt349.1 false bt328.1 bt349.2.1 bt349.2.2)))))))) = some (r1, r2, r3, r4) := h
 clear h
 replace H := jD.mp H
 obtain ⟨⟨t328, t329, t330⟩, A20, H⟩ := H
 replace H : ((spec_l27Draw.f k t328 t329 t330).bind fun bt332 => ((spec_l01Next.f t328 bt332.2.1 bt332.2.2 12).bind fun bt337 => ((spec_l01Next.f t328 bt337.2.1 bt337.2.2 (wrap64 ((bt332.1.length : Int) + (wrap64 (Int.tdiv bt337.1 11))))).bind fun bt340 => ((spec_l01Next.f t328 bt340.2.1 bt340.2.2 2000).bind fun bt343 => ((spec_l01Pick.f t328 bt343.2.1 bt343.2.2 (([bt343.1, 0, 100000000, 100000001, (-1)] : List Int))).bind fun bt349 => (if bt340.1 < (bt332.1.length : Int) then ((spec_l01Next.f t328 bt349.2.1 bt349.2.2 2).bind fun bt352 => (spec_DrawMoveGrams.j0 k bt332.1 (wrap64 ((bt332.1.length : Int) + (wrap64 (Int.tdiv bt337.1 11)))) bt340.1 bt349.1 (bt352.1 == 0) t328 bt352.2.1 bt352.2.2)) else (spec_DrawMoveGrams.j0 k bt332.1 (wrap64 ((bt332.1.length : Int) + (wrap64 (Int.tdiv bt337.1 11)))) bt340.1 bt349.1 false t328 bt349.2.1 bt349.2.2))))))) = some (r1, r2, r3, r4) := H
 have A2 := jA A20
 clear A20
 replace H := jD.mp H
 obtain ⟨⟨t332, t335, t336⟩, A30, H⟩ := H
 replace H : ((spec_l01Next.f t328 t335 t336 12).bind fun bt337 => ((spec_l01Next.f t328 bt337.2.1 bt337.2.2 (wrap64 ((t332.length : Int) + (wrap64 (Int.tdiv bt337.1 11))))).bind fun bt340 => ((spec_l01Next.f t328 bt340.2.1 bt340.2.2 2000).bind fun bt343 => ((spec_l01Pick.f t328 bt343.2.1 bt343.2.2 (([bt343.1, 0, 100000000, 100000001, (-1)] : List Int))).bind fun bt349 => (if bt340.1 < (t332.length : Int) then ((spec_l01Next.f t328 bt349.2.1 bt349.2.2 2).bind fun bt352 => (spec_DrawMoveGrams.j0 k t332 (wrap64 ((t332.length : Int) + (wrap64 (Int.tdiv bt337.1 11)))) bt340.1 bt349.1 (bt352.1 == 0) t328 bt352.2.1 bt352.2.2)) else (spec_DrawMoveGrams.j0 k t332 (wrap64 ((t332.length : Int) + (wrap64 (Int.tdiv bt337.1 11)))) bt340.1 bt349.1 false t328 bt349.2.1 bt349.2.2)))))) = some (r1, r2, r3, r4) := H
 have A3 := jA A30
 clear A30
 replace H := jD.mp H
 obtain ⟨⟨t337, t338, t339⟩, A40, H⟩ := H
 replace H : ((spec_l01Next.f t328 t338 t339 (wrap64 ((t332.length : Int) + (wrap64 (Int.tdiv t337 11))))).bind fun bt340 => ((spec_l01Next.f t328 bt340.2.1 bt340.2.2 2000).bind fun bt343 => ((spec_l01Pick.f t328 bt343.2.1 bt343.2.2 (([bt343.1, 0, 100000000, 100000001, (-1)] : List Int))).bind fun bt349 => (if bt340.1 < (t332.length : Int) then ((spec_l01Next.f t328 bt349.2.1 bt349.2.2 2).bind fun bt352 => (spec_DrawMoveGrams.j0 k t332 (wrap64 ((t332.length : Int) + (wrap64 (Int.tdiv t337 11)))) bt340.1 bt349.1 (bt352.1 == 0) t328 bt352.2.1 bt352.2.2)) else (spec_DrawMoveGrams.j0 k t332 (wrap64 ((t332.length : Int) + (wrap64 (Int.tdiv t337 11)))) bt340.1 bt349.1 false t328 bt349.2.1 bt349.2.2))))) = some (r1, r2, r3, r4) := H
 have A4 := jA A40
 clear A40
 replace H := jD.mp H
 obtain ⟨⟨t340, t341, t342⟩, A50, H⟩ := H
 replace H : ((spec_l01Next.f t328 t341 t342 2000).bind fun bt343 => ((spec_l01Pick.f t328 bt343.2.1 bt343.2.2 (([bt343.1, 0, 100000000, 100000001, (-1)] : List Int))).bind fun bt349 => (if t340 < (t332.length : Int) then ((spec_l01Next.f t328 bt349.2.1 bt349.2.2 2).bind fun bt352 => (spec_DrawMoveGrams.j0 k t332 (wrap64 ((t332.length : Int) + (wrap64 (Int.tdiv t337 11)))) t340 bt349.1 (bt352.1 == 0) t328 bt352.2.1 bt352.2.2)) else (spec_DrawMoveGrams.j0 k t332 (wrap64 ((t332.length : Int) + (wrap64 (Int.tdiv t337 11)))) t340 bt349.1 false t328 bt349.2.1 bt349.2.2)))) = some (r1, r2, r3, r4) := H
 have A5 := jA A50
 clear A50
 replace H := jD.mp H
 obtain ⟨⟨t343, t344, t345⟩, A60, H⟩ := H
 replace H : ((spec_l01Pick.f t328 t344 t345 (([t343, 0, 100000000, 100000001, (-1)] : List Int))).bind fun bt349 => (if t340 < (t332.length : Int) then ((spec_l01Next.f t328 bt349.2.1 bt349.2.2 2).bind fun bt352 => (spec_DrawMoveGrams.j0 k t332 (wrap64 ((t332.length : Int) + (wrap64 (Int.tdiv t337 11)))) t340 bt349.1 (bt352.1 == 0) t328 bt352.2.1 bt352.2.2)) else (spec_DrawMoveGrams.j0 k t332 (wrap64 ((t332.length : Int) + (wrap64 (Int.tdiv t337 11)))) t340 bt349.1 false t328 bt349.2.1 bt349.2.2))) = some (r1, r2, r3, r4) := H
 have A6 := jA A60
 clear A60
 obtain ⟨y346, hy346⟩ : ∃ y_ : List Int, y_ = (([t343, 0, 100000000, 100000001, (-1)] : List Int)) := ⟨_, rfl⟩
 replace H : ((spec_l01Pick.f t328 t344 t345 y346).bind fun bt349 => (if t340 < (t332.length : Int) then ((spec_l01Next.f t328 bt349.2.1 bt349.2.2 2).bind fun bt352 => (spec_DrawMoveGrams.j0 k t332 (wrap64 ((t332.length : Int) + (wrap64 (Int.tdiv t337 11)))) t340 bt349.1 (bt352.1 == 0) t328 bt352.2.1 bt352.2.2)) else (spec_DrawMoveGrams.j0 k t332 (wrap64 ((t332.length : Int) + (wrap64 (Int.tdiv t337 11)))) t340 bt349.1 false t328 bt349.2.1 bt349.2.2))) = some (r1, r2, r3, r4) := by first | (rw [hy346]; with_reducible exact H) | (have H2_ := (Option.bind_some _ _).symm.trans H; rw [hy346]; with_reducible exact H2_) | (have H2_ := (Option.bind_some _ _).symm.trans H; with_reducible exact H2_) | with_reducible exact H | (rw [hy346]; exact H) | exact H
 have Ny346 := jA hy346
 clear hy346
 replace H := jD.mp H
 obtain ⟨⟨t349, t350, t351⟩, A70, H⟩ := H
 replace H : (if t340 < (t332.length : Int) then ((spec_l01Next.f t328 t350 t351 2).bind fun bt352 => (spec_DrawMoveGrams.j0 k t332 (wrap64 ((t332.length : Int) + (wrap64 (Int.tdiv t337 11)))) t340 t349 (bt352.1 == 0) t328 bt352.2.1 bt352.2.2)) else (spec_DrawMoveGrams.j0 k t332 (wrap64 ((t332.length : Int) + (wrap64 (Int.tdiv t337 11)))) t340 t349 false t328 t350 t351)) = some (r1, r2, r3, r4) := H
 have A7 := jA A70
 clear A70
 have HC8 := jA H
 clear H
 go_enter Try.func50, Try.ntmps50
 go_upto_region 6 with (first | ((with_reducible refine jH (f := 66) rfl ?_); refine goesL_ (some 12) rfl rfl Try.func66 zr rfl #[.slice A0 l0.length c0] rfl zm ?_; (with_reducible refine (spec_l01From.calls k _ _ l0 t328 t329 t330 w _ ?side1 ?side2 ?side3 A2.out).mono ?_); (case side1 => repeat (first | (with_reducible first | exact HB.out | apply jP | apply jK | apply jL) | exact HB.out)); (case side2 => exact HR0.out); (case side3 => exact HC0.out); rintro e w9 ⟨g331, rfl, hi, hb, hb2⟩; refine ⟨_, rfl, ?_⟩; have n0_ := jA (hb); have n1_ := jA (hi); clear HB; have HB := n0_; have HI331 := n1_; clear n0_ n1_; (try clear hb); (try clear hb2); (try clear hk); (try clear hi)) | ((with_reducible refine jH (f := 75) rfl ?_); refine goesL_ (some 14) rfl rfl Try.func75 zr rfl #[.pointer (some ⟨g331, 0, none⟩)] rfl zm ?_; (with_reducible refine (spec_l27Draw.calls k g331 t328 t329 t330 t332 t335 t336 w _ ?side1 ?side2 A3.out).mono ?_); (case side1 => repeat (first | (with_reducible first | exact HI331.out | apply IsS86.alloc | apply IsS86.drewN | apply IsS86.drew | apply IsS86.set_1 | apply IsS86.set_2) | exact HI331.out)); (case side2 => repeat (first | (with_reducible first | exact HB.out | apply jP | apply jK | apply jL | refine jQ ?_ (IsS86.ge HI331.out)) | exact HB.out)); rintro e w10 ⟨v333, rfl, ho0, hi, hb, hk⟩; refine ⟨_, rfl, ?_⟩; have n0_ := jA (Kd.R_lower ho0 (jW (by repeat (first | (with_reducible first | exact HB.out | apply jP | apply jK | apply jL | refine jQ ?_ (IsS86.ge HI331.out)) | exact HB.out)))); have n1_ := jA (hb); have n2_ := jA (hi); clear HB; clear HI331; have HO334 := n0_; have HB := n1_; have HI331 := n2_; clear n0_ n1_ n2_; (try clear hb); (try clear hb2); (try clear hk); (try clear hi); (try clear ho0); obtain ⟨Ao11, co11, eo11⟩ := Kd.R_slice HO334.out; subst eo11) | ((with_reducible refine jH (f := 69) rfl ?_); refine goesL_ (some 18) rfl rfl Try.func69 zr rfl #[.pointer (some ⟨g331, 0, none⟩), .int .i64 12] rfl zm ?_; (with_reducible refine (spec_l01Next.calls g331 t328 t335 t336 12 t337 t338 t339 w _ ?side1 ?side2 A4.out).mono ?_); (case side1 => repeat (first | (with_reducible first | exact HI331.out | apply IsS86.alloc | apply IsS86.drewN | apply IsS86.drew | apply IsS86.set_1 | apply IsS86.set_2) | exact HI331.out)); (case side2 => repeat (first | (with_reducible first | exact HB.out | apply jP | apply jK | apply jL | refine jQ ?_ (IsS86.ge HI331.out)) | exact HB.out)); rintro e w12 ⟨rfl, hi, hb, hk⟩; refine ⟨_, rfl, ?_⟩; have n0_ := jA (Kd.R_mono (Kd.R_keep (IsS86.apart (show IsS86 w _ g331 t328 t335 t336 from by repeat (first | (with_reducible first | exact HI331.out | apply IsS86.alloc | apply IsS86.drewN | apply IsS86.drew | apply IsS86.set_1 | apply IsS86.set_2) | exact HI331.out)) (zo HO334) (by decide)) hk (fun _ h => h.2)) (fun _ h => h.1)); have n1_ := jA (hb); have n2_ := jA (hi); clear HO334; clear HB; clear HI331; have HO334 := n0_; have HB := n1_; have HI331 := n2_; clear n0_ n1_ n2_; (try clear hb); (try clear hb2); (try clear hk); (try clear hi)) | ((with_reducible refine jH (f := 69) rfl ?_); refine goesL_ (some 23) rfl rfl Try.func69 zr rfl #[.pointer (some ⟨g331, 0, none⟩), .int .i64 (wrap64 ((t332.length : Int) + (wrap64 (Int.tdiv t337 11))))] rfl zm ?_; (with_reducible refine (spec_l01Next.calls g331 t328 t338 t339 (wrap64 ((t332.length : Int) + (wrap64 (Int.tdiv t337 11)))) t340 t341 t342 w _ ?side1 ?side2 A5.out).mono ?_); (case side1 => repeat (first | (with_reducible first | exact HI331.out | apply IsS86.alloc | apply IsS86.drewN | apply IsS86.drew | apply IsS86.set_1 | apply IsS86.set_2) | exact HI331.out)); (case side2 => repeat (first | (with_reducible first | exact HB.out | apply jP | apply jK | apply jL | refine jQ ?_ (IsS86.ge HI331.out)) | exact HB.out)); rintro e w13 ⟨rfl, hi, hb, hk⟩; refine ⟨_, rfl, ?_⟩; have n0_ := jA (Kd.R_mono (Kd.R_keep (IsS86.apart (show IsS86 w _ g331 t328 t338 t339 from by repeat (first | (with_reducible first | exact HI331.out | apply IsS86.alloc | apply IsS86.drewN | apply IsS86.drew | apply IsS86.set_1 | apply IsS86.set_2) | exact HI331.out)) (zo HO334) (by decide)) hk (fun _ h => h.2)) (fun _ h => h.1)); have n1_ := jA (hb); have n2_ := jA (hi); clear HO334; clear HB; clear HI331; have HO334 := n0_; have HB := n1_; have HI331 := n2_; clear n0_ n1_ n2_; (try clear hb); (try clear hb2); (try clear hk); (try clear hi)) | ((with_reducible refine jH (f := 69) rfl ?_); refine goesL_ (some 26) rfl rfl Try.func69 zr rfl #[.pointer (some ⟨g331, 0, none⟩), .int .i64 2000] rfl zm ?_; (with_reducible refine (spec_l01Next.calls g331 t328 t341 t342 2000 t343 t344 t345 w _ ?side1 ?side2 A6.out).mono ?_); (case side1 => repeat (first | (with_reducible first | exact HI331.out | apply IsS86.alloc | apply IsS86.drewN | apply IsS86.drew | apply IsS86.set_1 | apply IsS86.set_2) | exact HI331.out)); (case side2 => repeat (first | (with_reducible first | exact HB.out | apply jP | apply jK | apply jL | refine jQ ?_ (IsS86.ge HI331.out)) | exact HB.out)); rintro e w14 ⟨rfl, hi, hb, hk⟩; refine ⟨_, rfl, ?_⟩; have n0_ := jA (Kd.R_mono (Kd.R_keep (IsS86.apart (show IsS86 w _ g331 t328 t341 t342 from by repeat (first | (with_reducible first | exact HI331.out | apply IsS86.alloc | apply IsS86.drewN | apply IsS86.drew | apply IsS86.set_1 | apply IsS86.set_2) | exact HI331.out)) (zo HO334) (by decide)) hk (fun _ h => h.2)) (fun _ h => h.1)); have n1_ := jA (hb); have n2_ := jA (hi); clear HO334; clear HB; clear HI331; have HO334 := n0_; have HB := n1_; have HI331 := n2_; clear n0_ n1_ n2_; (try clear hb); (try clear hb2); (try clear hk); (try clear hi)) | ((with_reducible refine gate_dst (N := 27) rfl ?_); refine Kd.R_lit (Kd.int .i64) _ 2 ?hg (N := 27) ?hd (xs := ([t343, 0, 100000000, 100000001, (-1)] : List Int)) (inner := [.int .i64 t343, .int .i64 0, .int .i64 100000000, .int .i64 100000001, .int .i64 (-1)]) (ok := fun _ => True) (okp := fun _ => True) ?hr ?hp (fun _ hk => hk) trivial (Below.refl _ _) (Nat.le_refl _) (by simp) ?_; (case hd => rfl); (case hg => rfl); (case hr => first | (go_simp; done) | (go_simp; rfl)); (case hp => exact (Reps.one (show Kd.M (Kd.int .i64) _ _ _ t343 [.int .i64 t343] from rfl) (Reps.one (show Kd.M (Kd.int .i64) _ _ _ 0 [.int .i64 0] from rfl) (Reps.one (show Kd.M (Kd.int .i64) _ _ _ 100000000 [.int .i64 100000000] from rfl) (Reps.one (show Kd.M (Kd.int .i64) _ _ _ 100000001 [.int .i64 100000001] from rfl) (Reps.one (show Kd.M (Kd.int .i64) _ _ _ (-1) [.int .i64 (-1)] from rfl) (Reps.none _ _))))))); intro v347 w15 ho16 hb hg_ hnew_; clear hg_ hnew_; (first | rw [← Ny346.out] at ho16 | (simp only [Int.reduceToNat] at ho16; rw [← Ny346.out] at ho16)); have n0_ := jA (Kd.R_below (zo HO334) hb); have n1_ := jA (Kd.R_lower ho16 (jW (by repeat (first | (with_reducible first | exact HB.out | apply jP | apply jK | apply jL | refine jQ ?_ (IsS86.ge HI331.out)) | exact HB.out)))); have n2_ := jA (IsS86.below (by repeat (first | (with_reducible first | exact HI331.out | apply IsS86.alloc | apply IsS86.drewN | apply IsS86.drew | apply IsS86.set_1 | apply IsS86.set_2) | exact HI331.out)) hb); have n3_ := jA (jT (by repeat (first | (with_reducible first | exact HB.out | apply jP | apply jK | apply jL | refine jQ ?_ (IsS86.ge HI331.out)) | exact HB.out)) hb); clear HO334; clear HI331; clear HB; have HO334 := n0_; have HO348 := n1_; have HI331 := n2_; have HB := n3_; clear n0_ n1_ n2_ n3_; clear hb ho16; obtain ⟨Ao17, co17, eo17⟩ := Kd.R_slice HO348.out; subst eo17) | ((with_reducible refine jH (f := 68) rfl ?_); refine goesL_ (some 28) rfl rfl Try.func68 zr rfl #[.pointer (some ⟨g331, 0, none⟩), .slice Ao17 y346.length co17] rfl zm ?_; (with_reducible refine (spec_l01Pick.calls g331 t328 t344 t345 _ _ y346 t349 t350 t351 w _ ?side1 ?side2 ?side3 ?side4 ?side5 A7.out).mono ?_); (case side1 => repeat (first | (with_reducible first | exact HI331.out | apply IsS86.alloc | apply IsS86.drewN | apply IsS86.drew | apply IsS86.set_1 | apply IsS86.set_2) | exact HI331.out)); (case side2 => repeat (first | (with_reducible first | exact HB.out | apply jP | apply jK | apply jL | refine jQ ?_ (IsS86.ge HI331.out)) | exact HB.out)); (case side3 => repeat (first | exact (jF HO348.out).2.2 | (with_reducible refine jO ?_ _) | (with_reducible refine jN ?_ _) | (with_reducible refine jS ?_))); (case side4 => exact (jF HO348.out).2.1); (case side5 => exact far_slice (IsS86.own_ne HI331.out HO348.out (by decide))); rintro e w18 ⟨rfl, hi, hb, hk⟩; refine ⟨_, rfl, ?_⟩; have n0_ := jA (Kd.R_mono (Kd.R_keep (IsS86.apart (show IsS86 w _ g331 t328 t344 t345 from by repeat (first | (with_reducible first | exact HI331.out | apply IsS86.alloc | apply IsS86.drewN | apply IsS86.drew | apply IsS86.set_1 | apply IsS86.set_2) | exact HI331.out)) (zo HO334) (by decide)) hk (fun _ h => h.2)) (fun _ h => h.1)); have n1_ := jA (Kd.R_mono (Kd.R_keep (IsS86.apart (show IsS86 w _ g331 t328 t344 t345 from by repeat (first | (with_reducible first | exact HI331.out | apply IsS86.alloc | apply IsS86.drewN | apply IsS86.drew | apply IsS86.set_1 | apply IsS86.set_2) | exact HI331.out)) (zo HO348) (by decide)) hk (fun _ h => h.2)) (fun _ h => h.1)); have n2_ := jA (hb); have n3_ := jA (hi); clear HO334; clear HO348; clear HB; clear HI331; have HO334 := n0_; have HO348 := n1_; have HB := n2_; have HI331 := n3_; clear n0_ n1_ n2_ n3_; (try clear hb); (try clear hb2); (try clear hk); (try clear hi)))
 (try simp only [Act.put, jE, jI, jJ])
 go_cut [37] (fun v37 wc => ∃ (kq : Nat) (x37_7 : Bool) (x332001_7 : Int) (x332002_7 : Int), v37 = .bool x37_7 ∧ Aside0 (spec_DrawMoveGrams.j0 kq t332 (wrap64 ((t332.length : Int) + (wrap64 (Int.tdiv t337 11)))) t340 t349 x37_7 t328 x332001_7 x332002_7 = some (r1, r2, r3, r4)) ∧ Aside0 (kq ≤ k) ∧ Aside0 (Kd.R k51 51 wc w.heap.size (fun _ => True) (.slice Ao11 t332.length co11) t332) ∧ Aside0 (IsS86 w wc g331 t328 x332001_7 x332002_7) ∧ Aside0 (Below w.heap.size w wc))
 case first =>
  have H := HC8.out
  clear HC8
  by_cases c19 : t340 < (t332.length : Int)
  ·rw [if_pos c19] at H
   have c19b0 : decide (t340 < (t332.length : Int)) = true := jG c19
   clear c19
   (first | rw [c19b0] | (simp only [i64_w, i32_w]; rw [c19b0]) | skip)
   replace H := jD.mp H
   obtain ⟨⟨t352, t353, t354⟩, A200, H⟩ := H
   replace H : (spec_DrawMoveGrams.j0 k t332 (wrap64 ((t332.length : Int) + (wrap64 (Int.tdiv t337 11)))) t340 t349 (t352 == 0) t328 t353 t354) = some (r1, r2, r3, r4) := H
   have A20 := jA A200
   clear A200
   have H' := jA H
   clear H
   go_wp2_with (first | (go_at_call 69; (with_reducible refine (spec_l01Next.calls g331 t328 t350 t351 2 t352 t353 t354 w _ ?side1 ?side2 A20.out).mono ?_); (case side1 => repeat (first | (with_reducible first | exact HI331.out | apply IsS86.alloc | apply IsS86.drewN | apply IsS86.drew | apply IsS86.set_1 | apply IsS86.set_2) | exact HI331.out)); (case side2 => repeat (first | (with_reducible first | exact HB.out | apply jP | apply jK | apply jL | refine jQ ?_ (IsS86.ge HI331.out)) | exact HB.out)); rintro e w21 ⟨rfl, hi, hb, hk⟩; have n0_ := jA (Kd.R_mono (Kd.R_keep (IsS86.apart (show IsS86 w _ g331 t328 t350 t351 from by repeat (first | (with_reducible first | exact HI331.out | apply IsS86.alloc | apply IsS86.drewN | apply IsS86.drew | apply IsS86.set_1 | apply IsS86.set_2) | exact HI331.out)) (zo HO334) (by decide)) hk (fun _ h => h.2)) (fun _ h => h.1)); have n1_ := jA (Kd.R_mono (Kd.R_keep (IsS86.apart (show IsS86 w _ g331 t328 t350 t351 from by repeat (first | (with_reducible first | exact HI331.out | apply IsS86.alloc | apply IsS86.drewN | apply IsS86.drew | apply IsS86.set_1 | apply IsS86.set_2) | exact HI331.out)) (zo HO348) (by decide)) hk (fun _ h => h.2)) (fun _ h => h.1)); have n2_ := jA (hb); have n3_ := jA (hi); clear HO334; clear HO348; clear HB; clear HI331; have HO334 := n0_; have HO348 := n1_; have HB := n2_; have HI331 := n3_; clear n0_ n1_ n2_ n3_; (try clear hb); (try clear hb2); (try clear hk); (try clear hi)))
   go_meet
   case rel => exact ⟨_, ((t352 == 0)), (t353), (t354), zz, H', ⟨by first | omega | exact Nat.le_refl _⟩, ⟨by (with_reducible repeat (first | apply ja | apply jZ | apply jX)); exact HO334.out⟩, ⟨by repeat (first | (with_reducible first | exact HI331.out | apply IsS86.alloc | apply IsS86.drewN | apply IsS86.drew | apply IsS86.set_1 | apply IsS86.set_2) | exact HI331.out)⟩, ⟨by repeat (first | (with_reducible first | exact HB.out | apply jP | apply jK | apply jL | refine jQ ?_ (IsS86.ge HI331.out)) | exact HB.out)⟩⟩
  ·rw [if_neg c19] at H
   have c19b0 : decide (t340 < (t332.length : Int)) = false := jb c19
   clear c19
   (first | rw [c19b0] | (simp only [i64_w, i32_w]; rw [c19b0]) | skip)
   have H' := jA H
   clear H
   go_wp2
   go_meet
   case rel => exact ⟨_, (false), (t350), (t351), zz, H', ⟨by first | omega | exact Nat.le_refl _⟩, ⟨by (with_reducible repeat (first | apply ja | apply jZ | apply jX)); exact HO334.out⟩, ⟨by repeat (first | (with_reducible first | exact HI331.out | apply IsS86.alloc | apply IsS86.drewN | apply IsS86.drew | apply IsS86.set_1 | apply IsS86.set_2) | exact HI331.out)⟩, ⟨by repeat (first | (with_reducible first | exact HB.out | apply jP | apply jK | apply jL | refine jQ ?_ (IsS86.ge HI331.out)) | exact HB.out)⟩⟩
 case rest =>
  clear HC8
  try clear c1
  try clear p2
  try clear c5
  try clear c6
  try clear p6
  try clear c7
  try clear c19
  try clear c19b0
  obtain ⟨kq, x37_7, x332001_7, x332002_7, rfl, HA, HJ7, HO_7, HI331, HB⟩ := hcut
  cases kq with
  | zero => exact absurd HA.out (by simp [spec_DrawMoveGrams.j0])
  | succ kj7 =>
   have H := HA.out
   clear HA
   simp only [spec_DrawMoveGrams.j0] at H
   by_cases c22 : x37_7 = true
   ·subst c22
    have H1 : (if 0 ≤ t340 then (if t340 < (t332.length : Int) then ((spec_l01Next.f t328 x332001_7 x332002_7 2).bind fun bt356 => ((spec_l01Next.f t328 bt356.2.1 bt356.2.2 (wrap64 ((t332.length : Int) + (wrap64 (Int.tdiv t337 11))))).bind fun bt359 => (some (t332, t340, bt359.1, wrap64 (((rd_T51 t332 t340).f2) + bt356.1))))) else (none)) else (none)) = some (r1, r2, r3, r4) := by rw [if_pos rfl] at H; exact H
    clear H
    have H := H1
    clear H1
    by_cases c23 : 0 ≤ t340
    ·rw [if_pos c23] at H
     have c23b0 : decide (0 ≤ t340) = true := jG c23
     clear c23
     by_cases c24 : t340 < (t332.length : Int)
     ·rw [if_pos c24] at H
      have c24b0 : decide (t340 < (t332.length : Int)) = true := jG c24
      clear c24
      replace H := jD.mp H
      obtain ⟨⟨t356, t357, t358⟩, A250, H⟩ := H
      replace H : ((spec_l01Next.f t328 t357 t358 (wrap64 ((t332.length : Int) + (wrap64 (Int.tdiv t337 11))))).bind fun bt359 => (some (t332, t340, bt359.1, wrap64 (((rd_T51 t332 t340).f2) + t356)))) = some (r1, r2, r3, r4) := H
      have A25 := jA A250
      clear A250
      replace H := jD.mp H
      obtain ⟨⟨t359, t360, t361⟩, A260, H⟩ := H
      replace H : (some (t332, t340, t359, wrap64 (((rd_T51 t332 t340).f2) + t356))) = some (r1, r2, r3, r4) := H
      have A26 := jA A260
      clear A260
      simp only [jU, jY] at H
      obtain ⟨rfl, rfl, rfl, rfl⟩ := H
      try go_wp2
      have n0_ := jA (jX HO_7.out)
      have n1_ := jA (IsS86.drew HI331.out)
      have n2_ := jA (jL HB.out)
      clear HO_7
      clear HI331
      clear HB
      have HO_7 := n0_
      have HI331 := n1_
      have HB := n2_
      clear n0_ n1_ n2_
      have p355 : 0 ≤ (t340 : Int) := jB za
      have q355 : t340 < (t332.length : Int) := jB za
      obtain ⟨ad355, e355, hx355_0, hx355_1, hx355_2⟩ := at_T51 (jF HO_7.out).2.2 t340 p355 q355
      cases e355
      replace p355 := eq_true p355
      replace q355 := eq_true q355
      refine start_ (n := 9) (S := fun w' => w'.cell? (ad355.add ((t340).toNat * 3)) = some (.int .i64 ((rd_T51 t332 t340).f0)) ∧ w'.cell? ⟨(ad355.add ((t340).toNat * 3)).block, (ad355.add ((t340).toNat * 3)).off + 1, none⟩ = some (.int .i64 ((rd_T51 t332 t340).f1)) ∧ w'.cell? ⟨(ad355.add ((t340).toNat * 3)).block, (ad355.add ((t340).toNat * 3)).off + 2, none⟩ = some (.int .i64 ((rd_T51 t332 t340).f2))) (ds := []) m9_0 zr rfl rfl ⟨hx355_0, hx355_1, hx355_2⟩ (fun hHeld => ?_); refine with_tabW spec_DrawMoveGrams.tab7 spec_DrawMoveGrams.bits7 (fun HT_ HW_ => ?_)
      generalize wc.drew = w27 at HO_7 HI331 HB hx355_0 hx355_1 hx355_2 hHeld ⊢
      refine zp HT_ 0 38 m9_100 ?_
      refine zp HT_ 1 39 m9_180 ?_
      refine zp HT_ 2 40 m9_1c0 ?_
      refine zp HT_ 3 41 #[true, true, true, true, false, false, false, false, false] ?_
      refine zp HT_ 5 43 #[true, true, true, true, false, true, false, false, false] ?_
      refine zt3 HT_ HW_ hHeld 4 42 #[true, true, true, true, true, true, false, false, false] ?_
      refine one_ (i := 6) (N := some 44) m9_1fc rfl rfl (one_of HT_.out zr) (by decide) (fun K hK => ?_)
      refine goes_ Try.func69 zr rfl #[.pointer (some ⟨g331, 0, none⟩), .int .i64 2] (by rfl) rfl rfl zm ?_
      with_reducible refine (spec_l01Next.calls g331 t328 x332001_7 x332002_7 2 t356 t357 t358 w _ ?side1 ?side2 A25.out).mono ?_
      (case side1 => repeat (first | (with_reducible first | exact HI331.out | apply IsS86.alloc | apply IsS86.drewN | apply IsS86.drew | apply IsS86.set_1 | apply IsS86.set_2) | exact HI331.out))
      (case side2 => repeat (first | (with_reducible first | exact HB.out | apply jP | apply jK | apply jL | refine jQ ?_ (IsS86.ge HI331.out)) | exact HB.out))
      rintro e w28 ⟨rfl, hi, hb, hk⟩
      have HS0_ := keep_cell hk (hHeld.1) (by first | (rw [add_block]; exact Kd.own_blk (IsS86.own_ne HI331.out HO_7.out (by decide))) | (show (Addr.add _ _).block ≠ _; rw [add_block]; exact Kd.own_blk (IsS86.own_ne HI331.out HO_7.out (by decide))) | exact Kd.own_blk (IsS86.own_ne HI331.out HO_7.out (by decide)))
      have HS1_ := keep_cell hk (hHeld.2.1) (by first | (rw [add_block]; exact Kd.own_blk (IsS86.own_ne HI331.out HO_7.out (by decide))) | (show (Addr.add _ _).block ≠ _; rw [add_block]; exact Kd.own_blk (IsS86.own_ne HI331.out HO_7.out (by decide))) | exact Kd.own_blk (IsS86.own_ne HI331.out HO_7.out (by decide)))
      have HS2_ := keep_cell hk (hHeld.2.2) (by first | (rw [add_block]; exact Kd.own_blk (IsS86.own_ne HI331.out HO_7.out (by decide))) | (show (Addr.add _ _).block ≠ _; rw [add_block]; exact Kd.own_blk (IsS86.own_ne HI331.out HO_7.out (by decide))) | exact Kd.own_blk (IsS86.own_ne HI331.out HO_7.out (by decide)))
      refine ⟨_, rfl, ?_⟩
      have n0_ := jA (Kd.R_mono (Kd.R_keep (IsS86.apart (show IsS86 w _ g331 t328 x332001_7 x332002_7 from by repeat (first | (with_reducible first | exact HI331.out | apply IsS86.alloc | apply IsS86.drewN | apply IsS86.drew | apply IsS86.set_1 | apply IsS86.set_2) | exact HI331.out)) (zo HO_7) (by decide)) hk (fun _ h => h.2)) (fun _ h => h.1))
      have n1_ := jA (hb)
      have n2_ := jA (hi)
      clear HO_7
      clear HB
      clear HI331
      have HO_7 := n0_
      have HB := n1_
      have HI331 := n2_
      clear n0_ n1_ n2_
      (try clear hb)
      (try clear hb2)
      (try clear hk)
      (try clear hi)
      refine hK.out _ _ ⟨HS0_, HS1_, HS2_⟩ (fun hHeld => ?_)
      clear hK K
      refine norm_ (a' := ?_) ?_ ?_
      rotate_left
      ·show Act.put _ (some 44) _ = _
       simp only [Act.put, jE, jI, jJ, i64_w, i32_w]
       rfl
      refine zp HT_ 7 45 m9_1fe ?_
      refine zp HT_ 8 10 m9_1ff ?_
      refine done_ (done_of HT_.out zr) ?_
      try go_wp2_with (first | ((with_reducible refine jH (f := 69) rfl ?_); refine goesL_ (some 50) rfl rfl Try.func69 zr rfl #[.pointer (some ⟨g331, 0, none⟩), .int .i64 (wrap64 ((t332.length : Int) + (wrap64 (Int.tdiv t337 11))))] rfl zm ?_; (with_reducible refine (spec_l01Next.calls g331 t328 t357 t358 (wrap64 ((t332.length : Int) + (wrap64 (Int.tdiv t337 11)))) t359 t360 t361 w _ ?side1 ?side2 A26.out).mono ?_); (case side1 => repeat (first | (with_reducible first | exact HI331.out | apply IsS86.alloc | apply IsS86.drewN | apply IsS86.drew | apply IsS86.set_1 | apply IsS86.set_2) | exact HI331.out)); (case side2 => repeat (first | (with_reducible first | exact HB.out | apply jP | apply jK | apply jL | refine jQ ?_ (IsS86.ge HI331.out)) | exact HB.out)); rintro e w29 ⟨rfl, hi, hb, hk⟩; refine ⟨_, rfl, ?_⟩; have n0_ := jA (Kd.R_mono (Kd.R_keep (IsS86.apart (show IsS86 w _ g331 t328 t357 t358 from by repeat (first | (with_reducible first | exact HI331.out | apply IsS86.alloc | apply IsS86.drewN | apply IsS86.drew | apply IsS86.set_1 | apply IsS86.set_2) | exact HI331.out)) (zo HO_7) (by decide)) hk (fun _ h => h.2)) (fun _ h => h.1)); have n1_ := jA (hb); have n2_ := jA (hi); clear HO_7; clear HB; clear HI331; have HO_7 := n0_; have HB := n1_; have HI331 := n2_; clear n0_ n1_ n2_; (try clear hb); (try clear hb2); (try clear hk); (try clear hi)))
      refine bodyPost_ret (results_list (rs := [.tmp 2, .tmp 3, .tmp 4, .tmp 5]) rfl (by simp) (.tmp (.tmp (.tmp (.tmp .nil))))) rfl ?_
      exact ⟨_, by first | rfl | (simp [errW_none, errW_some] <;> rfl) | (simp [*, errW_none, errW_some] <;> rfl), by (with_reducible repeat (first | apply ja | apply jZ | apply jX)); exact HO_7.out, by repeat (first | (with_reducible first | exact HB.out | apply jP | apply jK | apply jL | refine jQ ?_ (IsS86.ge HI331.out)) | exact HB.out)⟩
     ·rw [if_neg c24] at H
      exact absurd H (by simp)
    ·rw [if_neg c23] at H
     exact absurd H (by simp)
   ·replace c22 := Bool.eq_false_iff.mpr c22
    subst c22
    have H1 : ((spec_l01Next.f t328 x332001_7 x332002_7 (wrap64 ((t332.length : Int) + (wrap64 (Int.tdiv t337 11))))).bind fun bt362 => (some (t332, t340, bt362.1, t349))) = some (r1, r2, r3, r4) := by rw [if_neg (show ¬ (false = true) by decide)] at H; exact H
    clear H
    have H := H1
    clear H1
    replace H := jD.mp H
    obtain ⟨⟨t362, t363, t364⟩, A300, H⟩ := H
    replace H : (some (t332, t340, t362, t349)) = some (r1, r2, r3, r4) := H
    have A30 := jA A300
    clear A300
    simp only [jU, jY] at H
    obtain ⟨rfl, rfl, rfl, rfl⟩ := H
    go_wp2_with (first | ((with_reducible refine jH (f := 69) rfl ?_); refine goesL_ (some 50) rfl rfl Try.func69 zr rfl #[.pointer (some ⟨g331, 0, none⟩), .int .i64 (wrap64 ((t332.length : Int) + (wrap64 (Int.tdiv t337 11))))] rfl zm ?_; (with_reducible refine (spec_l01Next.calls g331 t328 x332001_7 x332002_7 (wrap64 ((t332.length : Int) + (wrap64 (Int.tdiv t337 11)))) t362 t363 t364 w _ ?side1 ?side2 A30.out).mono ?_); (case side1 => repeat (first | (with_reducible first | exact HI331.out | apply IsS86.alloc | apply IsS86.drewN | apply IsS86.drew | apply IsS86.set_1 | apply IsS86.set_2) | exact HI331.out)); (case side2 => repeat (first | (with_reducible first | exact HB.out | apply jP | apply jK | apply jL | refine jQ ?_ (IsS86.ge HI331.out)) | exact HB.out)); rintro e w31 ⟨rfl, hi, hb, hk⟩; refine ⟨_, rfl, ?_⟩; have n0_ := jA (Kd.R_mono (Kd.R_keep (IsS86.apart (show IsS86 w _ g331 t328 x332001_7 x332002_7 from by repeat (first | (with_reducible first | exact HI331.out | apply IsS86.alloc | apply IsS86.drewN | apply IsS86.drew | apply IsS86.set_1 | apply IsS86.set_2) | exact HI331.out)) (zo HO_7) (by decide)) hk (fun _ h => h.2)) (fun _ h => h.1)); have n1_ := jA (hb); have n2_ := jA (hi); clear HO_7; clear HB; clear HI331; have HO_7 := n0_; have HB := n1_; have HI331 := n2_; clear n0_ n1_ n2_; (try clear hb); (try clear hb2); (try clear hk); (try clear hi)))
    refine bodyPost_ret (results_list (rs := [.tmp 2, .tmp 3, .tmp 4, .tmp 5]) rfl (by simp) (.tmp (.tmp (.tmp (.tmp .nil))))) rfl ?_
    exact ⟨_, by first | rfl | (simp [errW_none, errW_some] <;> rfl) | (simp [*, errW_none, errW_some] <;> rfl), by (with_reducible repeat (first | apply ja | apply jZ | apply jX)); exact HO_7.out, by repeat (first | (with_reducible first | exact HB.out | apply jP | apply jK | apply jL | refine jQ ?_ (IsS86.ge HI331.out)) | exact HB.out)⟩

/-! ### laws_likeInts: function 85 -/
def laws_likeInts.l0 : Nat → List Int → List Int → Int → Option (Bool)
 | 0, _, _, _ => none
 | k + 1, x0, x1, x5 => if x5 < (x0.length : Int) then (if 0 ≤ x5 then (if x5 < (x1.length : Int) then (if (rd x0 x5) = (rd x1 x5) then (laws_likeInts.l0 k x0 x1 (wrap64 (x5 + 1))) else (some false)) else (none)) else (none)) else (some true)
def laws_likeInts.f (k : Nat) (l0 : List Int) (l1 : List Int) : Option (Bool) := if (l0.length : Int) = (l1.length : Int) then (laws_likeInts.l0 k l0 l1 0) else (some false)
theorem laws_likeInts.mono_l : ∀ k, (∀ y0 y1 y2, LeO (laws_likeInts.l0 k y0 y1 y2) (laws_likeInts.l0 (k + 1) y0 y1 y2))
 | 0 => fun _ _ _ r h => by simp [laws_likeInts.l0] at h
 | k + 1 => by
  have ih0 := laws_likeInts.mono_l k
  ·intro y0 y1 y2
   unfold laws_likeInts.l0
   repeat' first
   | (with_reducible exact ih0 _ _ _)
   | (with_reducible exact LeO.refl _)
   | (with_reducible exact LeO.none _)
   | (with_reducible refine LeO.ite ?_ ?_)
   | (with_reducible refine LeO.bind ?_ (fun _ => ?_))
   | exact ih0 _ _ _
   | exact LeO.none _
   | refine LeO.ite ?_ ?_
   | refine LeO.bind ?_ (fun _ => ?_)
theorem laws_likeInts.mono : ∀ a0 a1 k, LeO (laws_likeInts.f k a0 a1) (laws_likeInts.f (k + 1) a0 a1) := by
 intro a0 a1 k
 have ih0 := laws_likeInts.mono_l k
 unfold laws_likeInts.f
 repeat' first
   | (with_reducible exact ih0 _ _ _)
   | (with_reducible exact LeO.refl _)
   | (with_reducible exact LeO.none _)
   | (with_reducible refine LeO.ite ?_ ?_)
   | (with_reducible refine LeO.bind ?_ (fun _ => ?_))
   | exact ih0 _ _ _
   | exact LeO.none _
   | refine LeO.ite ?_ ?_
   | refine LeO.bind ?_ (fun _ => ?_)
set_option maxHeartbeats 8000000 in
set_option maxRecDepth 100000 in
theorem laws_likeInts.calls (k : Nat) (A0 : Option Addr) (c0 : Nat) (l0 : List Int) (A1 : Option Addr) (c1 : Nat) (l1 : List Int) (r : Bool) (w : World) (hr0 : Kd.C (Kd.int .i64) w A0 l0.length l0) (hc0 : l0.length ≤ c0) (hr1 : Kd.C (Kd.int .i64) w A1 l1.length l1) (hc1 : l1.length ≤ c1) (h : laws_likeInts.f k l0 l1 = some r) :
  Calls Try.prog 85 #[.slice A0 l0.length c0, .slice A1 l1.length c1] w fun e w' => e = .returned (.bool r) ∧ Drawn0 w w' := by
 have HR0 := jA hr0
 have HC0 := jA hc0
 clear hr0 hc0
 have HR1 := jA hr1
 have HC1 := jA hc1
 clear hr1 hc1
 have H : (if (l0.length : Int) = (l1.length : Int) then (laws_likeInts.l0 k l0 l1 0) else (some false)) = some r := h
 clear h
 by_cases c3 : (l0.length : Int) = (l1.length : Int)
 ·rw [if_pos c3] at H
  have c3b0 : ((l0.length : Int) == (l1.length : Int)) = true := beq_iff_eq.mpr c3
  have c3b1 : ((l0.length : Int) != (l1.length : Int)) = false := bne_eq_false_iff_eq.mpr c3
  have c3b2 : (l0.length == l1.length) = true := by first | simpa using c3 | (simp at c3 ⊢; omega)
  clear c3
  have H' := jA H
  clear H
  go_enter Try.func85, Try.ntmps85
  go_wp2
  repeat (go_quiet (fail); try go_wp2)
  go_loopg [5] k (fun kq v5 w' => ∃ (x5_1 : Int), v5 = .int .i64 x5_1 ∧ Aside0 (laws_likeInts.l0 kq l0 l1 x5_1 = some r) ∧ Aside0 (kq ≤ k) ∧ Drawn0 w w')
  case atStart => exact ⟨(0), zz, H', ⟨Nat.le_refl _⟩, by repeat (first | exact Drawn0.refl _ | apply Drawn0.step)⟩
  case round =>
   clear H'
   try clear c1
   try clear p2
   try clear c3
   try clear c3b0
   try clear c3b1
   try clear c3b2
   obtain ⟨x5_1, rfl, HA, HK1, ⟨m1, rfl⟩⟩ := hrel
   cases gk with
   | zero => exact absurd HA.out (by simp [laws_likeInts.l0])
   | succ k1 =>
    have H := HA.out
    clear HA
    simp only [laws_likeInts.l0] at H
    by_cases c4 : x5_1 < (l0.length : Int)
    ·rw [if_pos c4] at H
     have c4b0 : decide (x5_1 < (l0.length : Int)) = true := jG c4
     clear c4
     by_cases c5 : 0 ≤ x5_1
     ·rw [if_pos c5] at H
      have c5b0 : decide (0 ≤ x5_1) = true := jG c5
      clear c5
      by_cases c6 : x5_1 < (l1.length : Int)
      ·rw [if_pos c6] at H
       have c6b0 : decide (x5_1 < (l1.length : Int)) = true := jG c6
       clear c6
       by_cases c7 : (rd l0 x5_1) = (rd l1 x5_1)
       ·rw [if_pos c7] at H
        have c7b0 : ((rd l0 x5_1) == (rd l1 x5_1)) = true := beq_iff_eq.mpr c7
        have c7b1 : ((rd l0 x5_1) != (rd l1 x5_1)) = false := bne_eq_false_iff_eq.mpr c7
        clear c7
        have H' := jA H
        clear H
        have p365 : 0 ≤ (x5_1 : Int) := jB za
        have q365 : x5_1 < (l0.length : Int) := jB za
        obtain ⟨ad365, e365, hx365_0⟩ := Kd.at_int HR0.out x5_1 p365 q365
        cases e365
        replace p365 := eq_true p365
        replace q365 := eq_true q365
        have p366 : 0 ≤ (x5_1 : Int) := jB za
        have q366 : x5_1 < (l1.length : Int) := jB za
        obtain ⟨ad366, e366, hx366_0⟩ := Kd.at_int HR1.out x5_1 p366 q366
        cases e366
        replace p366 := eq_true p366
        replace q366 := eq_true q366
        go_wp2
        repeat (go_quiet (fail); try go_wp2)
        go_roundg k1
        case measure => have := HK1.out; omega
        case rel => exact ⟨(wrap64 (x5_1 + 1)), zz, H', ⟨by have := HK1.out; omega⟩, by repeat (first | exact Drawn0.refl _ | apply Drawn0.step)⟩
       ·rw [if_neg c7] at H
        have c7b0 : ((rd l0 x5_1) == (rd l1 x5_1)) = false := beq_eq_false_iff_ne.mpr c7
        have c7b1 : ((rd l0 x5_1) != (rd l1 x5_1)) = true := bne_iff_ne.mpr c7
        obtain rfl := jM H
        have p365 : 0 ≤ (x5_1 : Int) := jB za
        have q365 : x5_1 < (l0.length : Int) := jB za
        obtain ⟨ad365, e365, hx365_0⟩ := Kd.at_int HR0.out x5_1 p365 q365
        cases e365
        replace p365 := eq_true p365
        replace q365 := eq_true q365
        have p366 : 0 ≤ (x5_1 : Int) := jB za
        have q366 : x5_1 < (l1.length : Int) := jB za
        obtain ⟨ad366, e366, hx366_0⟩ := Kd.at_int HR1.out x5_1 p366 q366
        cases e366
        replace p366 := eq_true p366
        replace q366 := eq_true q366
        go_wp2
        repeat (go_quiet (fail); try go_wp2)
        go_ret
        exact ⟨by first | rfl | (simp; done) | (simp [*]; done), by repeat (first | exact Drawn0.refl _ | apply Drawn0.step)⟩
      ·rw [if_neg c6] at H
       exact absurd H (by simp)
     ·rw [if_neg c5] at H
      exact absurd H (by simp)
    ·rw [if_neg c4] at H
     have c4b0 : decide (x5_1 < (l0.length : Int)) = false := jb c4
     clear c4
     obtain rfl := jM H
     go_wp2
     repeat (go_quiet (fail); try go_wp2)
     go_ret
     exact ⟨by first | rfl | (simp; done) | (simp [*]; done), by repeat (first | exact Drawn0.refl _ | apply Drawn0.step)⟩
 ·rw [if_neg c3] at H
  have c3b0 : ((l0.length : Int) == (l1.length : Int)) = false := beq_eq_false_iff_ne.mpr c3
  have c3b1 : ((l0.length : Int) != (l1.length : Int)) = true := bne_iff_ne.mpr c3
  have c3b2 : (l0.length == l1.length) = false := by first | simpa using c3 | (simp at c3 ⊢; omega)
  obtain rfl := jM H
  go_enter Try.func85, Try.ntmps85
  go_wp2
  repeat (go_quiet (fail); try go_wp2)
  go_ret
  exact ⟨by first | rfl | (simp; done) | (simp [*]; done), by repeat (first | exact Drawn0.refl _ | apply Drawn0.step)⟩

/-! ### laws_likeRows: function 51 -/
def laws_likeRows.l0 : Nat → List (List Int) → List (List Int) → Int → Option (Bool)
 | 0, _, _, _ => none
 | k + 1, x0, x1, x5 => if x5 < (x0.length : Int) then (if 0 ≤ x5 then (if x5 < (x1.length : Int) then ((laws_likeInts.f k (rd_L3 x0 x5) (rd_L3 x1 x5)).bind fun t369 => (if t369 = true then (laws_likeRows.l0 k x0 x1 (wrap64 (x5 + 1))) else (some false))) else (none)) else (none)) else (some true)
def laws_likeRows.f (k : Nat) (l0 : List (List Int)) (l1 : List (List Int)) : Option (Bool) := if (l0.length : Int) = (l1.length : Int) then (laws_likeRows.l0 k l0 l1 0) else (some false)
theorem laws_likeRows.mono_l : ∀ k, (∀ y0 y1 y2, LeO (laws_likeRows.l0 k y0 y1 y2) (laws_likeRows.l0 (k + 1) y0 y1 y2))
 | 0 => fun _ _ _ r h => by simp [laws_likeRows.l0] at h
 | k + 1 => by
  have ih0 := laws_likeRows.mono_l k
  ·intro y0 y1 y2
   unfold laws_likeRows.l0
   repeat' first
   | (with_reducible exact ih0 _ _ _)
   | (with_reducible exact laws_likeInts.mono _ _ _)
   | (with_reducible exact LeO.refl _)
   | (with_reducible exact LeO.none _)
   | (with_reducible refine LeO.ite ?_ ?_)
   | (with_reducible refine LeO.bind ?_ (fun _ => ?_))
   | exact ih0 _ _ _
   | exact laws_likeInts.mono _ _ _
   | exact LeO.none _
   | refine LeO.ite ?_ ?_
   | refine LeO.bind ?_ (fun _ => ?_)
theorem laws_likeRows.mono : ∀ a0 a1 k, LeO (laws_likeRows.f k a0 a1) (laws_likeRows.f (k + 1) a0 a1) := by
 intro a0 a1 k
 have ih0 := laws_likeRows.mono_l k
 unfold laws_likeRows.f
 repeat' first
   | (with_reducible exact ih0 _ _ _)
   | (with_reducible exact laws_likeInts.mono _ _ _)
   | (with_reducible exact LeO.refl _)
   | (with_reducible exact LeO.none _)
   | (with_reducible refine LeO.ite ?_ ?_)
   | (with_reducible refine LeO.bind ?_ (fun _ => ?_))
   | exact ih0 _ _ _
   | exact laws_likeInts.mono _ _ _
   | exact LeO.none _
   | refine LeO.ite ?_ ?_
   | refine LeO.bind ?_ (fun _ => ?_)
set_option maxHeartbeats 8000000 in
set_option maxRecDepth 100000 in
theorem laws_likeRows.calls (k : Nat) (A0 : Option Addr) (c0 : Nat) (l0 : List (List Int)) (A1 : Option Addr) (c1 : Nat) (l1 : List (List Int)) (r : Bool) (w : World) (hr0 : Kd.C (Kd.slice 2 (Kd.int .i64)) w A0 l0.length l0) (hc0 : l0.length ≤ c0) (hr1 : Kd.C (Kd.slice 2 (Kd.int .i64)) w A1 l1.length l1) (hc1 : l1.length ≤ c1) (h : laws_likeRows.f k l0 l1 = some r) :
  Calls Try.prog 51 #[.slice A0 l0.length c0, .slice A1 l1.length c1] w fun e w' => e = .returned (.bool r) ∧ Drawn0 w w' := by
 have HR0 := jA hr0
 have HC0 := jA hc0
 clear hr0 hc0
 have HR1 := jA hr1
 have HC1 := jA hc1
 clear hr1 hc1
 have H : (if (l0.length : Int) = (l1.length : Int) then (laws_likeRows.l0 k l0 l1 0) else (some false)) = some r := h
 clear h
 by_cases c3 : (l0.length : Int) = (l1.length : Int)
 ·rw [if_pos c3] at H
  have c3b0 : ((l0.length : Int) == (l1.length : Int)) = true := beq_iff_eq.mpr c3
  have c3b1 : ((l0.length : Int) != (l1.length : Int)) = false := bne_eq_false_iff_eq.mpr c3
  have c3b2 : (l0.length == l1.length) = true := by first | simpa using c3 | (simp at c3 ⊢; omega)
  clear c3
  have H' := jA H
  clear H
  go_enter Try.func51, Try.ntmps51
  go_wp2
  repeat (go_quiet (fail); try go_wp2)
  go_loopg [5] k (fun kq v5 w' => ∃ (x5_1 : Int), v5 = .int .i64 x5_1 ∧ Aside0 (laws_likeRows.l0 kq l0 l1 x5_1 = some r) ∧ Aside0 (kq ≤ k) ∧ Drawn0 w w')
  case atStart => exact ⟨(0), zz, H', ⟨Nat.le_refl _⟩, by repeat (first | exact Drawn0.refl _ | apply Drawn0.step)⟩
  case round =>
   clear H'
   try clear c1
   try clear p2
   try clear c3
   try clear c3b0
   try clear c3b1
   try clear c3b2
   obtain ⟨x5_1, rfl, HA, HK1, ⟨m1, rfl⟩⟩ := hrel
   cases gk with
   | zero => exact absurd HA.out (by simp [laws_likeRows.l0])
   | succ k1 =>
    have H := HA.out
    clear HA
    simp only [laws_likeRows.l0] at H
    by_cases c4 : x5_1 < (l0.length : Int)
    ·rw [if_pos c4] at H
     have c4b0 : decide (x5_1 < (l0.length : Int)) = true := jG c4
     clear c4
     by_cases c5 : 0 ≤ x5_1
     ·rw [if_pos c5] at H
      have c5b0 : decide (0 ≤ x5_1) = true := jG c5
      clear c5
      by_cases c6 : x5_1 < (l1.length : Int)
      ·rw [if_pos c6] at H
       have c6b0 : decide (x5_1 < (l1.length : Int)) = true := jG c6
       clear c6
       replace H := jD.mp H
       obtain ⟨t369, A70, H⟩ := H
       replace H : (if t369 = true then (laws_likeRows.l0 k1 l0 l1 (wrap64 (x5_1 + 1))) else (some false)) = some r := H
       have A7 := jA A70
       clear A70
       by_cases c8 : t369 = true
       ·subst c8
        have H1 : (laws_likeRows.l0 k1 l0 l1 (wrap64 (x5_1 + 1))) = some r := by rw [if_pos rfl] at H; exact H
        clear H
        have H := H1
        clear H1
        have H' := jA H
        clear H
        have p367 : 0 ≤ (x5_1 : Int) := jB za
        have q367 : x5_1 < (l0.length : Int) := jB za
        obtain ⟨ad367, A367_0, c367_0, e367, hx367_0, hl367_0, hi367_0⟩ := at_L3 HR0.out x5_1 p367 q367
        cases e367
        have HR367_0 := jA hi367_0
        have HC367_0 := jA hl367_0
        clear hi367_0 hl367_0
        replace p367 := eq_true p367
        replace q367 := eq_true q367
        have p368 : 0 ≤ (x5_1 : Int) := jB za
        have q368 : x5_1 < (l1.length : Int) := jB za
        obtain ⟨ad368, A368_0, c368_0, e368, hx368_0, hl368_0, hi368_0⟩ := at_L3 HR1.out x5_1 p368 q368
        cases e368
        have HR368_0 := jA hi368_0
        have HC368_0 := jA hl368_0
        clear hi368_0 hl368_0
        replace p368 := eq_true p368
        replace q368 := eq_true q368
        go_wp2_with (first | (go_at_call 85; (with_reducible refine (laws_likeInts.calls k1 _ _ (rd_L3 l0 x5_1) _ _ (rd_L3 l1 x5_1) true _ ?side1 ?side2 ?side3 ?side4 A7.out).mono ?_); (case side1 => repeat (first | exact HR367_0.out | (with_reducible refine jO ?_ _) | (with_reducible refine jN ?_ _) | (with_reducible refine jS ?_))); (case side2 => exact HC367_0.out); (case side3 => repeat (first | exact HR368_0.out | (with_reducible refine jO ?_ _) | (with_reducible refine jN ?_ _) | (with_reducible refine jS ?_))); (case side4 => exact HC368_0.out); rintro e w' ⟨rfl, ⟨nd, rfl⟩⟩; (try first | exact ⟨rfl, _, World.drewN_drewN _ _ _⟩ | exact ⟨rfl, _, Eq.trans (World.drewN_drewN _ _ _) (congrArg (World.drewN _) (Nat.add_assoc _ _ _))⟩)))
        repeat (go_quiet (first | (go_at_call 85; (with_reducible refine (laws_likeInts.calls k1 _ _ (rd_L3 l0 x5_1) _ _ (rd_L3 l1 x5_1) true _ ?side1 ?side2 ?side3 ?side4 A7.out).mono ?_); (case side1 => repeat (first | exact HR367_0.out | (with_reducible refine jO ?_ _) | (with_reducible refine jN ?_ _) | (with_reducible refine jS ?_))); (case side2 => exact HC367_0.out); (case side3 => repeat (first | exact HR368_0.out | (with_reducible refine jO ?_ _) | (with_reducible refine jN ?_ _) | (with_reducible refine jS ?_))); (case side4 => exact HC368_0.out); rintro e w' ⟨rfl, ⟨nd, rfl⟩⟩; (try first | exact ⟨rfl, _, World.drewN_drewN _ _ _⟩ | exact ⟨rfl, _, Eq.trans (World.drewN_drewN _ _ _) (congrArg (World.drewN _) (Nat.add_assoc _ _ _))⟩))); try go_wp2_with (first | (go_at_call 85; (with_reducible refine (laws_likeInts.calls k1 _ _ (rd_L3 l0 x5_1) _ _ (rd_L3 l1 x5_1) true _ ?side1 ?side2 ?side3 ?side4 A7.out).mono ?_); (case side1 => repeat (first | exact HR367_0.out | (with_reducible refine jO ?_ _) | (with_reducible refine jN ?_ _) | (with_reducible refine jS ?_))); (case side2 => exact HC367_0.out); (case side3 => repeat (first | exact HR368_0.out | (with_reducible refine jO ?_ _) | (with_reducible refine jN ?_ _) | (with_reducible refine jS ?_))); (case side4 => exact HC368_0.out); rintro e w' ⟨rfl, ⟨nd, rfl⟩⟩; (try first | exact ⟨rfl, _, World.drewN_drewN _ _ _⟩ | exact ⟨rfl, _, Eq.trans (World.drewN_drewN _ _ _) (congrArg (World.drewN _) (Nat.add_assoc _ _ _))⟩))))
        go_roundg k1
        case measure => have := HK1.out; omega
        case rel => exact ⟨(wrap64 (x5_1 + 1)), zz, H', ⟨by have := HK1.out; omega⟩, by repeat (first | exact Drawn0.refl _ | apply Drawn0.step)⟩
       ·replace c8 := Bool.eq_false_iff.mpr c8
        subst c8
        have H1 : (some false) = some r := by rw [if_neg (show ¬ (false = true) by decide)] at H; exact H
        clear H
        have H := H1
        clear H1
        obtain rfl := jM H
        have p367 : 0 ≤ (x5_1 : Int) := jB za
        have q367 : x5_1 < (l0.length : Int) := jB za
        obtain ⟨ad367, A367_0, c367_0, e367, hx367_0, hl367_0, hi367_0⟩ := at_L3 HR0.out x5_1 p367 q367
        cases e367
        have HR367_0 := jA hi367_0
        have HC367_0 := jA hl367_0
        clear hi367_0 hl367_0
        replace p367 := eq_true p367
        replace q367 := eq_true q367
        have p368 : 0 ≤ (x5_1 : Int) := jB za
        have q368 : x5_1 < (l1.length : Int) := jB za
        obtain ⟨ad368, A368_0, c368_0, e368, hx368_0, hl368_0, hi368_0⟩ := at_L3 HR1.out x5_1 p368 q368
        cases e368
        have HR368_0 := jA hi368_0
        have HC368_0 := jA hl368_0
        clear hi368_0 hl368_0
        replace p368 := eq_true p368
        replace q368 := eq_true q368
        go_wp2_with (first | (go_at_call 85; (with_reducible refine (laws_likeInts.calls k1 _ _ (rd_L3 l0 x5_1) _ _ (rd_L3 l1 x5_1) false _ ?side1 ?side2 ?side3 ?side4 A7.out).mono ?_); (case side1 => repeat (first | exact HR367_0.out | (with_reducible refine jO ?_ _) | (with_reducible refine jN ?_ _) | (with_reducible refine jS ?_))); (case side2 => exact HC367_0.out); (case side3 => repeat (first | exact HR368_0.out | (with_reducible refine jO ?_ _) | (with_reducible refine jN ?_ _) | (with_reducible refine jS ?_))); (case side4 => exact HC368_0.out); rintro e w' ⟨rfl, ⟨nd, rfl⟩⟩; (try first | exact ⟨rfl, _, World.drewN_drewN _ _ _⟩ | exact ⟨rfl, _, Eq.trans (World.drewN_drewN _ _ _) (congrArg (World.drewN _) (Nat.add_assoc _ _ _))⟩)))
        repeat (go_quiet (first | (go_at_call 85; (with_reducible refine (laws_likeInts.calls k1 _ _ (rd_L3 l0 x5_1) _ _ (rd_L3 l1 x5_1) false _ ?side1 ?side2 ?side3 ?side4 A7.out).mono ?_); (case side1 => repeat (first | exact HR367_0.out | (with_reducible refine jO ?_ _) | (with_reducible refine jN ?_ _) | (with_reducible refine jS ?_))); (case side2 => exact HC367_0.out); (case side3 => repeat (first | exact HR368_0.out | (with_reducible refine jO ?_ _) | (with_reducible refine jN ?_ _) | (with_reducible refine jS ?_))); (case side4 => exact HC368_0.out); rintro e w' ⟨rfl, ⟨nd, rfl⟩⟩; (try first | exact ⟨rfl, _, World.drewN_drewN _ _ _⟩ | exact ⟨rfl, _, Eq.trans (World.drewN_drewN _ _ _) (congrArg (World.drewN _) (Nat.add_assoc _ _ _))⟩))); try go_wp2_with (first | (go_at_call 85; (with_reducible refine (laws_likeInts.calls k1 _ _ (rd_L3 l0 x5_1) _ _ (rd_L3 l1 x5_1) false _ ?side1 ?side2 ?side3 ?side4 A7.out).mono ?_); (case side1 => repeat (first | exact HR367_0.out | (with_reducible refine jO ?_ _) | (with_reducible refine jN ?_ _) | (with_reducible refine jS ?_))); (case side2 => exact HC367_0.out); (case side3 => repeat (first | exact HR368_0.out | (with_reducible refine jO ?_ _) | (with_reducible refine jN ?_ _) | (with_reducible refine jS ?_))); (case side4 => exact HC368_0.out); rintro e w' ⟨rfl, ⟨nd, rfl⟩⟩; (try first | exact ⟨rfl, _, World.drewN_drewN _ _ _⟩ | exact ⟨rfl, _, Eq.trans (World.drewN_drewN _ _ _) (congrArg (World.drewN _) (Nat.add_assoc _ _ _))⟩))))
        go_ret
        exact ⟨by first | rfl | (simp; done) | (simp [*]; done), by repeat (first | exact Drawn0.refl _ | apply Drawn0.step)⟩
      ·rw [if_neg c6] at H
       exact absurd H (by simp)
     ·rw [if_neg c5] at H
      exact absurd H (by simp)
    ·rw [if_neg c4] at H
     have c4b0 : decide (x5_1 < (l0.length : Int)) = false := jb c4
     clear c4
     obtain rfl := jM H
     go_wp2
     repeat (go_quiet (fail); try go_wp2)
     go_ret
     exact ⟨by first | rfl | (simp; done) | (simp [*]; done), by repeat (first | exact Drawn0.refl _ | apply Drawn0.step)⟩
 ·rw [if_neg c3] at H
  have c3b0 : ((l0.length : Int) == (l1.length : Int)) = false := beq_eq_false_iff_ne.mpr c3
  have c3b1 : ((l0.length : Int) != (l1.length : Int)) = true := bne_iff_ne.mpr c3
  have c3b2 : (l0.length == l1.length) = false := by first | simpa using c3 | (simp at c3 ⊢; omega)
  obtain rfl := jM H
  go_enter Try.func51, Try.ntmps51
  go_wp2
  repeat (go_quiet (fail); try go_wp2)
  go_ret
  exact ⟨by first | rfl | (simp; done) | (simp [*]; done), by repeat (first | exact Drawn0.refl _ | apply Drawn0.step)⟩

/-! ### laws_likeDepots: function 52 -/
def laws_likeDepots.l0 : Nat → List (S51) → List (S51) → Int → Option (Bool)
 | 0, _, _, _ => none
 | k + 1, x0, x1, x5 => if x5 < (x0.length : Int) then (if 0 ≤ x5 then (if x5 < (x1.length : Int) then (if (!(((rd_T51 x0 x5).f0) == ((rd_T51 x1 x5).f0)) || (!(((rd_T51 x0 x5).f1) == ((rd_T51 x1 x5).f1)) || (!(((rd_T51 x0 x5).f2) == ((rd_T51 x1 x5).f2))))) = true then (some false) else (laws_likeDepots.l0 k x0 x1 (wrap64 (x5 + 1)))) else (none)) else (none)) else (some true)
def laws_likeDepots.f (k : Nat) (l0 : List (S51)) (l1 : List (S51)) : Option (Bool) := if (l0.length : Int) = (l1.length : Int) then (laws_likeDepots.l0 k l0 l1 0) else (some false)
theorem laws_likeDepots.mono_l : ∀ k, (∀ y0 y1 y2, LeO (laws_likeDepots.l0 k y0 y1 y2) (laws_likeDepots.l0 (k + 1) y0 y1 y2))
 | 0 => fun _ _ _ r h => by simp [laws_likeDepots.l0] at h
 | k + 1 => by
  have ih0 := laws_likeDepots.mono_l k
  ·intro y0 y1 y2
   unfold laws_likeDepots.l0
   repeat' first
   | (with_reducible exact ih0 _ _ _)
   | (with_reducible exact LeO.refl _)
   | (with_reducible exact LeO.none _)
   | (with_reducible refine LeO.ite ?_ ?_)
   | (with_reducible refine LeO.bind ?_ (fun _ => ?_))
   | exact ih0 _ _ _
   | exact LeO.none _
   | refine LeO.ite ?_ ?_
   | refine LeO.bind ?_ (fun _ => ?_)
theorem laws_likeDepots.mono : ∀ a0 a1 k, LeO (laws_likeDepots.f k a0 a1) (laws_likeDepots.f (k + 1) a0 a1) := by
 intro a0 a1 k
 have ih0 := laws_likeDepots.mono_l k
 unfold laws_likeDepots.f
 repeat' first
   | (with_reducible exact ih0 _ _ _)
   | (with_reducible exact LeO.refl _)
   | (with_reducible exact LeO.none _)
   | (with_reducible refine LeO.ite ?_ ?_)
   | (with_reducible refine LeO.bind ?_ (fun _ => ?_))
   | exact ih0 _ _ _
   | exact LeO.none _
   | refine LeO.ite ?_ ?_
   | refine LeO.bind ?_ (fun _ => ?_)
theorem like_true {a a' b b' : Int} {c c' : Int} {R : Type} (x y : R) (h : (!(a == a') || (!(b == b') || (!(c == c')))) = true) : (if a = a' then (if b = b' then (if c = c' then x else y) else y) else y) = y := by
 by_cases h0 : a = a' <;> by_cases h1 : b = b' <;> by_cases h2 : c = c' <;> simp_all
theorem like_false {a a' b b' : Int} {c c' : Int} {R : Type} (x y : R) (h : (!(a == a') || (!(b == b') || (!(c == c')))) = false) : (if a = a' then (if b = b' then (if c = c' then x else y) else y) else y) = x := by
 by_cases h0 : a = a' <;> by_cases h1 : b = b' <;> by_cases h2 : c = c' <;> simp_all
set_option maxHeartbeats 8000000 in
set_option maxRecDepth 100000 in
theorem laws_likeDepots.calls (k : Nat) (A0 : Option Addr) (c0 : Nat) (l0 : List (S51)) (A1 : Option Addr) (c1 : Nat) (l1 : List (S51)) (r : Bool) (w : World) (hr0 : Kd.C k51 w A0 l0.length l0) (hc0 : l0.length ≤ c0) (hr1 : Kd.C k51 w A1 l1.length l1) (hc1 : l1.length ≤ c1) (h : laws_likeDepots.f k l0 l1 = some r) :
  Calls Try.prog 52 #[.slice A0 l0.length c0, .slice A1 l1.length c1] w fun e w' => e = .returned (.bool r) ∧ Drawn0 w w' := by
 have hu51 := Try.underlying51
 have HR0 := jA hr0
 have HC0 := jA hc0
 clear hr0 hc0
 have HR1 := jA hr1
 have HC1 := jA hc1
 clear hr1 hc1
 have H : (if (l0.length : Int) = (l1.length : Int) then (laws_likeDepots.l0 k l0 l1 0) else (some false)) = some r := h
 clear h
 by_cases c3 : (l0.length : Int) = (l1.length : Int)
 ·rw [if_pos c3] at H
  have c3b0 : ((l0.length : Int) == (l1.length : Int)) = true := beq_iff_eq.mpr c3
  have c3b1 : ((l0.length : Int) != (l1.length : Int)) = false := bne_eq_false_iff_eq.mpr c3
  have c3b2 : (l0.length == l1.length) = true := by first | simpa using c3 | (simp at c3 ⊢; omega)
  clear c3
  have H' := jA H
  clear H
  go_enter Try.func52, Try.ntmps52
  go_wp2
  repeat (go_quiet (fail); try go_wp2)
  go_loopg [5] k (fun kq v5 w' => ∃ (x5_1 : Int), v5 = .int .i64 x5_1 ∧ Aside0 (laws_likeDepots.l0 kq l0 l1 x5_1 = some r) ∧ Aside0 (kq ≤ k) ∧ Drawn0 w w')
  case atStart => exact ⟨(0), zz, H', ⟨Nat.le_refl _⟩, by repeat (first | exact Drawn0.refl _ | apply Drawn0.step)⟩
  case round =>
   clear H'
   try clear c1
   try clear p2
   try clear c3
   try clear c3b0
   try clear c3b1
   try clear c3b2
   obtain ⟨x5_1, rfl, HA, HK1, ⟨m1, rfl⟩⟩ := hrel
   cases gk with
   | zero => exact absurd HA.out (by simp [laws_likeDepots.l0])
   | succ k1 =>
    have H := HA.out
    clear HA
    simp only [laws_likeDepots.l0] at H
    by_cases c4 : x5_1 < (l0.length : Int)
    ·rw [if_pos c4] at H
     have c4b0 : decide (x5_1 < (l0.length : Int)) = true := jG c4
     clear c4
     by_cases c5 : 0 ≤ x5_1
     ·rw [if_pos c5] at H
      have c5b0 : decide (0 ≤ x5_1) = true := jG c5
      clear c5
      by_cases c6 : x5_1 < (l1.length : Int)
      ·rw [if_pos c6] at H
       have c6b0 : decide (x5_1 < (l1.length : Int)) = true := jG c6
       clear c6
       by_cases c7 : (!(((rd_T51 l0 x5_1).f0) == ((rd_T51 l1 x5_1).f0)) || (!(((rd_T51 l0 x5_1).f1) == ((rd_T51 l1 x5_1).f1)) || (!(((rd_T51 l0 x5_1).f2) == ((rd_T51 l1 x5_1).f2))))) = true
       ·rw [if_pos c7] at H
        have c7b0 : (!(((rd_T51 l0 x5_1).f0) == ((rd_T51 l1 x5_1).f0)) || (!(((rd_T51 l0 x5_1).f1) == ((rd_T51 l1 x5_1).f1)) || (!(((rd_T51 l0 x5_1).f2) == ((rd_T51 l1 x5_1).f2))))) = true := c7
        clear c7
        obtain rfl := jM H
        have p370 : 0 ≤ (x5_1 : Int) := jB za
        have q370 : x5_1 < (l0.length : Int) := jB za
        obtain ⟨ad370, e370, hx370_0, hx370_1, hx370_2⟩ := at_T51 HR0.out x5_1 p370 q370
        cases e370
        replace p370 := eq_true p370
        replace q370 := eq_true q370
        have p371 : 0 ≤ (x5_1 : Int) := jB za
        have q371 : x5_1 < (l1.length : Int) := jB za
        obtain ⟨ad371, e371, hx371_0, hx371_1, hx371_2⟩ := at_T51 HR1.out x5_1 p371 q371
        cases e371
        replace p371 := eq_true p371
        replace q371 := eq_true q371
        go_wp2_with (fail)
        refine start_ (n := 9) (S := fun w' => w'.cell? (ad370.add (x5_1.toNat * 3)) = some (.int .i64 ((rd_T51 l0 x5_1).f0)) ∧ w'.cell? ⟨(ad370.add (x5_1.toNat * 3)).block, (ad370.add (x5_1.toNat * 3)).off + 1, none⟩ = some (.int .i64 ((rd_T51 l0 x5_1).f1)) ∧ w'.cell? ⟨(ad370.add (x5_1.toNat * 3)).block, (ad370.add (x5_1.toNat * 3)).off + 2, none⟩ = some (.int .i64 ((rd_T51 l0 x5_1).f2)) ∧ w'.cell? (ad371.add (x5_1.toNat * 3)) = some (.int .i64 ((rd_T51 l1 x5_1).f0)) ∧ w'.cell? ⟨(ad371.add (x5_1.toNat * 3)).block, (ad371.add (x5_1.toNat * 3)).off + 1, none⟩ = some (.int .i64 ((rd_T51 l1 x5_1).f1)) ∧ w'.cell? ⟨(ad371.add (x5_1.toNat * 3)).block, (ad371.add (x5_1.toNat * 3)).off + 2, none⟩ = some (.int .i64 ((rd_T51 l1 x5_1).f2))) (ds := []) m9_0 zr rfl rfl ⟨hx370_0, hx370_1, hx370_2, hx371_0, hx371_1, hx371_2⟩ (fun hHeld => ?_)
        refine pure_ (i := 0) (N := some 17) (v := ?_) (a' := ?_) m9_100 rfl rfl zr (fun _ _ _ h => h) (Or.inl ⟨by rfl, ?_⟩) ?_ ?_
        rotate_left
        ·intro w'
         go_simp
         with_reducible rfl
        rotate_left
        ·simp only [Act.put, jE, jI, jJ, i64_w, i32_w]
         rfl
        refine pure_ (i := 1) (N := some 18) (v := ?_) (a' := ?_) m9_180 rfl rfl zr (fun _ _ _ h => h) (Or.inl ⟨by rfl, ?_⟩) ?_ ?_
        rotate_left
        ·intro w'
         go_simp
         with_reducible rfl
        rotate_left
        ·simp only [Act.put, jE, jI, jJ, i64_w, i32_w]
         rfl
        refine pure_ (i := 2) (N := some 19) (v := ?_) (a' := ?_) m9_1c0 rfl rfl zr (fun _ _ _ h => h) (Or.inl ⟨by rfl, ?_⟩) ?_ ?_
        rotate_left
        ·intro w'
         go_simp
         with_reducible rfl
        rotate_left
        ·simp only [Act.put, jE, jI, jJ, i64_w, i32_w]
         rfl
        refine pure_ (i := 4) (N := some 21) (v := ?_) (a' := ?_) m9_1d0 rfl rfl zr (fun _ _ _ h => h) (Or.inl ⟨by rfl, ?_⟩) ?_ ?_
        rotate_left
        ·intro w'
         go_simp
         with_reducible rfl
        rotate_left
        ·simp only [Act.put, jE, jI, jJ, i64_w, i32_w]
         rfl
        refine pure_ (i := 5) (N := some 22) (v := ?_) (a' := ?_) m9_1d8 rfl rfl zr (fun _ _ _ h => h) (Or.inl ⟨by rfl, ?_⟩) ?_ ?_
        rotate_left
        ·intro w'
         go_simp
         with_reducible rfl
        rotate_left
        ·simp only [Act.put, jE, jI, jJ, i64_w, i32_w]
         rfl
        refine pure_ (i := 6) (N := some 23) (v := ?_) (a' := ?_) m9_1dc rfl rfl zr (fun _ _ _ h => h) (Or.inl ⟨by rfl, ?_⟩) ?_ ?_
        rotate_left
        ·intro w'
         go_simp
         with_reducible rfl
        rotate_left
        ·simp only [Act.put, jE, jI, jJ, i64_w, i32_w]
         rfl
        refine take_ (i := 3) (N := some 20) (v := ?_) (a' := ?_) m9_1fc rfl rfl zr (fun _ _ _ h => h) (Or.inl ⟨by rfl, ?_⟩) hHeld ?_ ?_
        rotate_left
        ·rintro w' ⟨s0, s1, s2, s3, s4, s5⟩
         go_simp
         with_reducible rfl
        rotate_left
        ·simp only [Act.put, jE, jI, jJ, i64_w, i32_w]
         rfl
        refine take_ (i := 7) (N := some 24) (v := ?_) (a' := ?_) m9_1fe rfl rfl zr (fun _ _ _ h => h) (Or.inl ⟨by rfl, ?_⟩) hHeld ?_ ?_
        rotate_left
        ·rintro w' ⟨s0, s1, s2, s3, s4, s5⟩
         go_simp
         with_reducible rfl
        rotate_left
        ·simp only [Act.put, jE, jI, jJ, i64_w, i32_w]
         rfl
        refine pure_ (i := 8) (N := some 25) (v := .bool true) (a' := ?_) m9_1ff rfl rfl zr (fun _ _ _ h => h) (Or.inl ⟨by rfl, by intro w'; go_simp; try first | exact like_true _ _ c7b0 | (intro q0_ q1_ q2_; rw [q0_, q1_, q2_] at c7b0; simp at c7b0)⟩) ?_ ?_
        rotate_left
        ·simp only [Act.put, jE, jI, jJ, i64_w, i32_w]
         rfl
        refine done_ zr ?_
        go_wp2
        go_ret
        exact ⟨by first | rfl | (simp; done) | (simp [*]; done), by repeat (first | exact Drawn0.refl _ | apply Drawn0.step)⟩
       ·rw [if_neg c7] at H
        have c7b0 : (!(((rd_T51 l0 x5_1).f0) == ((rd_T51 l1 x5_1).f0)) || (!(((rd_T51 l0 x5_1).f1) == ((rd_T51 l1 x5_1).f1)) || (!(((rd_T51 l0 x5_1).f2) == ((rd_T51 l1 x5_1).f2))))) = false := by simpa using c7
        clear c7
        have H' := jA H
        clear H
        have p370 : 0 ≤ (x5_1 : Int) := jB za
        have q370 : x5_1 < (l0.length : Int) := jB za
        obtain ⟨ad370, e370, hx370_0, hx370_1, hx370_2⟩ := at_T51 HR0.out x5_1 p370 q370
        cases e370
        replace p370 := eq_true p370
        replace q370 := eq_true q370
        have p371 : 0 ≤ (x5_1 : Int) := jB za
        have q371 : x5_1 < (l1.length : Int) := jB za
        obtain ⟨ad371, e371, hx371_0, hx371_1, hx371_2⟩ := at_T51 HR1.out x5_1 p371 q371
        cases e371
        replace p371 := eq_true p371
        replace q371 := eq_true q371
        go_wp2_with (fail)
        refine start_ (n := 9) (S := fun w' => w'.cell? (ad370.add (x5_1.toNat * 3)) = some (.int .i64 ((rd_T51 l0 x5_1).f0)) ∧ w'.cell? ⟨(ad370.add (x5_1.toNat * 3)).block, (ad370.add (x5_1.toNat * 3)).off + 1, none⟩ = some (.int .i64 ((rd_T51 l0 x5_1).f1)) ∧ w'.cell? ⟨(ad370.add (x5_1.toNat * 3)).block, (ad370.add (x5_1.toNat * 3)).off + 2, none⟩ = some (.int .i64 ((rd_T51 l0 x5_1).f2)) ∧ w'.cell? (ad371.add (x5_1.toNat * 3)) = some (.int .i64 ((rd_T51 l1 x5_1).f0)) ∧ w'.cell? ⟨(ad371.add (x5_1.toNat * 3)).block, (ad371.add (x5_1.toNat * 3)).off + 1, none⟩ = some (.int .i64 ((rd_T51 l1 x5_1).f1)) ∧ w'.cell? ⟨(ad371.add (x5_1.toNat * 3)).block, (ad371.add (x5_1.toNat * 3)).off + 2, none⟩ = some (.int .i64 ((rd_T51 l1 x5_1).f2))) (ds := []) m9_0 zr rfl rfl ⟨hx370_0, hx370_1, hx370_2, hx371_0, hx371_1, hx371_2⟩ (fun hHeld => ?_)
        refine pure_ (i := 0) (N := some 17) (v := ?_) (a' := ?_) m9_100 rfl rfl zr (fun _ _ _ h => h) (Or.inl ⟨by rfl, ?_⟩) ?_ ?_
        rotate_left
        ·intro w'
         go_simp
         with_reducible rfl
        rotate_left
        ·simp only [Act.put, jE, jI, jJ, i64_w, i32_w]
         rfl
        refine pure_ (i := 1) (N := some 18) (v := ?_) (a' := ?_) m9_180 rfl rfl zr (fun _ _ _ h => h) (Or.inl ⟨by rfl, ?_⟩) ?_ ?_
        rotate_left
        ·intro w'
         go_simp
         with_reducible rfl
        rotate_left
        ·simp only [Act.put, jE, jI, jJ, i64_w, i32_w]
         rfl
        refine pure_ (i := 2) (N := some 19) (v := ?_) (a' := ?_) m9_1c0 rfl rfl zr (fun _ _ _ h => h) (Or.inl ⟨by rfl, ?_⟩) ?_ ?_
        rotate_left
        ·intro w'
         go_simp
         with_reducible rfl
        rotate_left
        ·simp only [Act.put, jE, jI, jJ, i64_w, i32_w]
         rfl
        refine pure_ (i := 4) (N := some 21) (v := ?_) (a' := ?_) m9_1d0 rfl rfl zr (fun _ _ _ h => h) (Or.inl ⟨by rfl, ?_⟩) ?_ ?_
        rotate_left
        ·intro w'
         go_simp
         with_reducible rfl
        rotate_left
        ·simp only [Act.put, jE, jI, jJ, i64_w, i32_w]
         rfl
        refine pure_ (i := 5) (N := some 22) (v := ?_) (a' := ?_) m9_1d8 rfl rfl zr (fun _ _ _ h => h) (Or.inl ⟨by rfl, ?_⟩) ?_ ?_
        rotate_left
        ·intro w'
         go_simp
         with_reducible rfl
        rotate_left
        ·simp only [Act.put, jE, jI, jJ, i64_w, i32_w]
         rfl
        refine pure_ (i := 6) (N := some 23) (v := ?_) (a' := ?_) m9_1dc rfl rfl zr (fun _ _ _ h => h) (Or.inl ⟨by rfl, ?_⟩) ?_ ?_
        rotate_left
        ·intro w'
         go_simp
         with_reducible rfl
        rotate_left
        ·simp only [Act.put, jE, jI, jJ, i64_w, i32_w]
         rfl
        refine take_ (i := 3) (N := some 20) (v := ?_) (a' := ?_) m9_1fc rfl rfl zr (fun _ _ _ h => h) (Or.inl ⟨by rfl, ?_⟩) hHeld ?_ ?_
        rotate_left
        ·rintro w' ⟨s0, s1, s2, s3, s4, s5⟩
         go_simp
         with_reducible rfl
        rotate_left
        ·simp only [Act.put, jE, jI, jJ, i64_w, i32_w]
         rfl
        refine take_ (i := 7) (N := some 24) (v := ?_) (a' := ?_) m9_1fe rfl rfl zr (fun _ _ _ h => h) (Or.inl ⟨by rfl, ?_⟩) hHeld ?_ ?_
        rotate_left
        ·rintro w' ⟨s0, s1, s2, s3, s4, s5⟩
         go_simp
         with_reducible rfl
        rotate_left
        ·simp only [Act.put, jE, jI, jJ, i64_w, i32_w]
         rfl
        refine pure_ (i := 8) (N := some 25) (v := .bool false) (a' := ?_) m9_1ff rfl rfl zr (fun _ _ _ h => h) (Or.inl ⟨by rfl, by intro w'; go_simp; try first | exact like_false _ _ c7b0 | (intro q0_ q1_ q2_; rw [q0_, q1_, q2_] at c7b0; simp at c7b0)⟩) ?_ ?_
        rotate_left
        ·simp only [Act.put, jE, jI, jJ, i64_w, i32_w]
         rfl
        refine done_ zr ?_
        go_wp2
        go_roundg k1
        case measure => have := HK1.out; omega
        case rel => exact ⟨(wrap64 (x5_1 + 1)), zz, H', ⟨by have := HK1.out; omega⟩, by repeat (first | exact Drawn0.refl _ | apply Drawn0.step)⟩
      ·rw [if_neg c6] at H
       exact absurd H (by simp)
     ·rw [if_neg c5] at H
      exact absurd H (by simp)
    ·rw [if_neg c4] at H
     have c4b0 : decide (x5_1 < (l0.length : Int)) = false := jb c4
     clear c4
     obtain rfl := jM H
     go_wp2
     repeat (go_quiet (fail); try go_wp2)
     go_ret
     exact ⟨by first | rfl | (simp; done) | (simp [*]; done), by repeat (first | exact Drawn0.refl _ | apply Drawn0.step)⟩
 ·rw [if_neg c3] at H
  have c3b0 : ((l0.length : Int) == (l1.length : Int)) = false := beq_eq_false_iff_ne.mpr c3
  have c3b1 : ((l0.length : Int) != (l1.length : Int)) = true := bne_iff_ne.mpr c3
  have c3b2 : (l0.length == l1.length) = false := by first | simpa using c3 | (simp at c3 ⊢; omega)
  obtain rfl := jM H
  go_enter Try.func52, Try.ntmps52
  go_wp2
  repeat (go_quiet (fail); try go_wp2)
  go_ret
  exact ⟨by first | rfl | (simp; done) | (simp [*]; done), by repeat (first | exact Drawn0.refl _ | apply Drawn0.step)⟩

end Go.Proofs.Ytmhnkhealidjjaa.PFnDepots
