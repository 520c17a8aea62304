/- Functions and contracts that FnDepots reaches (2 of 11). -/
import Derived.Test.YtmhnkhealidjjaaQFnDepotsx0
namespace Go.Proofs.Ytmhnkhealidjjaa.PFnDepots
open Go.RowKit Go.Proofs.YtmhnkhealidjjaaW.PrintWords Go.Proofs.YtmhnkhealidjjaaW.PrintLast Go.Proofs.YtmhnkhealidjjaaW.PrintMore
attribute [local go_sem] max2_int min2_int max_two min_two max_three min_three max_four min_four   -- for this text's walks alone
set_option linter.unusedVariables false
set_option linter.unusedSimpArgs false

/-! ### spec_MoveGrams: function 33 -/
def spec_MoveGrams.j0 : Nat → List (S51) → Int → Int → Int → Bool → Option ((List (S51)) × Int)
 | 0, _, _, _, _, _ => none
 | k + 1, x0, x1, x2, x3, x32 => if x32 = true then (some (([] : List (S51)), 2)) else ((some (([] : List (S51)) : List (S51))).bind fun y119 => (if y119.length + x0.length < 5864062014805 then ((some (y119 ++ x0 : List (S51))).bind fun y122 => (if 0 ≤ x1 then (if x1 < (y122.length : Int) then ((some (y122.set (x1 : Int).toNat (⟨(rd_T51 y122 x1).f0, (rd_T51 y122 x1).f1, wrap64 (((rd_T51 y122 x1).f2) - x3)⟩ : S51) : List (S51))).bind fun y126 => (if 0 ≤ x2 then (if x2 < (y122.length : Int) then ((some (y126.set (x2 : Int).toNat (⟨(rd_T51 y126 x2).f0, (rd_T51 y126 x2).f1, wrap64 (((rd_T51 y126 x2).f2) + x3)⟩ : S51) : List (S51))).bind fun y128 => (if x1 = x2 then (some (([] : List (S51)), 5)) else ((spec_AreDepots.f k y128).bind fun t129 => (if t129 = true then (some (y128, 0)) else (some (([] : List (S51)), 5)))))) else (none)) else (none))) else (none)) else (none))) else (none)))
def spec_MoveGrams.f (k : Nat) (l0 : List (S51)) (a1 : Int) (a2 : Int) (a3 : Int) : Option ((List (S51)) × Int) := (spec_AreDepots.f k l0).bind fun t115 => (if t115 = true then ((spec_l01In.f a1 0 (wrap64 ((l0.length : Int) - 1))).bind fun t116 => (if t116 = true then ((spec_l01In.f a2 0 (wrap64 ((l0.length : Int) - 1))).bind fun t117 => (if t117 = true then ((spec_l01In.f a3 0 100000000).bind fun t118 => (spec_MoveGrams.j0 k l0 a1 a2 a3 (!t118))) else (spec_MoveGrams.j0 k l0 a1 a2 a3 true))) else (spec_MoveGrams.j0 k l0 a1 a2 a3 true))) else (some (([] : List (S51)), 1)))
theorem spec_MoveGrams.mono_l : ∀ k, (∀ y0 y1 y2 y3 y4, LeO (spec_MoveGrams.j0 k y0 y1 y2 y3 y4) (spec_MoveGrams.j0 (k + 1) y0 y1 y2 y3 y4))
 | 0 => fun _ _ _ _ _ r h => by simp [spec_MoveGrams.j0] at h
 | k + 1 => by
  have ih0 := spec_MoveGrams.mono_l k
  ·intro y0 y1 y2 y3 y4
   unfold spec_MoveGrams.j0
   repeat' first
   | (with_reducible exact ih0 _ _ _ _ _)
   | (with_reducible exact spec_AreDepots.mono _ _)
   | (with_reducible exact LeO.refl _)
   | (with_reducible exact LeO.none _)
   | (with_reducible refine LeO.ite ?_ ?_)
   | (with_reducible refine LeO.bind ?_ (fun _ => ?_))
   | exact ih0 _ _ _ _ _
   | exact spec_AreDepots.mono _ _
   | exact LeO.none _
   | refine LeO.ite ?_ ?_
   | refine LeO.bind ?_ (fun _ => ?_)
theorem spec_MoveGrams.mono : ∀ a0 a1 a2 a3 k, LeO (spec_MoveGrams.f k a0 a1 a2 a3) (spec_MoveGrams.f (k + 1) a0 a1 a2 a3) := by
 intro a0 a1 a2 a3 k
 have ih0 := spec_MoveGrams.mono_l k
 unfold spec_MoveGrams.f
 repeat' first
   | (with_reducible exact ih0 _ _ _ _ _)
   | (with_reducible exact spec_AreDepots.mono _ _)
   | (with_reducible exact LeO.refl _)
   | (with_reducible exact LeO.none _)
   | (with_reducible refine LeO.ite ?_ ?_)
   | (with_reducible refine LeO.bind ?_ (fun _ => ?_))
   | exact ih0 _ _ _ _ _
   | exact spec_AreDepots.mono _ _
   | exact LeO.none _
   | refine LeO.ite ?_ ?_
   | refine LeO.bind ?_ (fun _ => ?_)
set_option maxHeartbeats 8000000 in
set_option maxRecDepth 100000 in
theorem spec_MoveGrams.calls (k : Nat) (A0 : Option Addr) (c0 : Nat) (l0 : List (S51)) (a1 : Int) (a2 : Int) (a3 : Int) (r1 : List (S51)) (r2 : Int) (w : World) (hr0 : Kd.C k51 w A0 l0.length l0) (hc0 : l0.length ≤ c0) (h : spec_MoveGrams.f k l0 a1 a2 a3 = some (r1, r2)) :
  Calls Try.prog 33 #[.slice A0 l0.length c0, .int .i64 a1, .int .i64 a2, .int .i64 a3] w fun e w' => ∃ v0_ : Value, e = .returned (.tuple #[v0_, .int .i64 r2]) ∧ Kd.R k51 51 w' w.heap.size (fun _ => True) v0_ r1 ∧ Below w.heap.size w w' := by
 have HR0 := jA hr0
 have HC0 := jA hc0
 clear hr0 hc0
 have HB := jA (Below.refl w.heap.size w)
 have H : ((spec_AreDepots.f k l0).bind fun t115 => (if t115 = true then ((spec_l01In.f a1 0 (wrap64 ((l0.length : Int) - 1))).bind fun t116 => (if t116 = true then ((spec_l01In.f a2 0 (wrap64 ((l0.length : Int) - 1))).bind fun t117 => (if t117 = true then ((spec_l01In.f a3 0 100000000).bind fun t118 => (spec_MoveGrams.j0 k l0 a1 a2 a3 (!t118))) else (spec_MoveGrams.j0 k l0 a1 a2 a3 true))) else (spec_MoveGrams.j0 k l0 a1 a2 a3 true))) else (some (([] : List (S51)), 1)))) = some (r1, r2) := h
 clear h
 replace H := jD.mp H
 obtain ⟨t115, A50, H⟩ := H
 replace H : (if t115 = true then ((spec_l01In.f a1 0 (wrap64 ((l0.length : Int) - 1))).bind fun t116 => (if t116 = true then ((spec_l01In.f a2 0 (wrap64 ((l0.length : Int) - 1))).bind fun t117 => (if t117 = true then ((spec_l01In.f a3 0 100000000).bind fun t118 => (spec_MoveGrams.j0 k l0 a1 a2 a3 (!t118))) else (spec_MoveGrams.j0 k l0 a1 a2 a3 true))) else (spec_MoveGrams.j0 k l0 a1 a2 a3 true))) else (some (([] : List (S51)), 1))) = some (r1, r2) := H
 have A5 := jA A50
 clear A50
 by_cases c6 : t115 = true
 ·subst c6
  have H1 : ((spec_l01In.f a1 0 (wrap64 ((l0.length : Int) - 1))).bind fun t116 => (if t116 = true then ((spec_l01In.f a2 0 (wrap64 ((l0.length : Int) - 1))).bind fun t117 => (if t117 = true then ((spec_l01In.f a3 0 100000000).bind fun t118 => (spec_MoveGrams.j0 k l0 a1 a2 a3 (!t118))) else (spec_MoveGrams.j0 k l0 a1 a2 a3 true))) else (spec_MoveGrams.j0 k l0 a1 a2 a3 true))) = some (r1, r2) := by rw [if_pos rfl] at H; exact H
  clear H
  have H := H1
  clear H1
  have HC7 := jA H
  clear H
  go_enter Try.func33, Try.ntmps33
  go_upto_region 4 with (first | ((with_reducible refine jH (f := 20) rfl ?_); refine goesL_ (some 13) rfl rfl Try.func20 zr rfl #[.slice A0 l0.length c0] rfl zm ?_; (with_reducible refine (spec_AreDepots.calls k _ _ l0 true _ ?side1 ?side2 A5.out).mono ?_); (case side1 => repeat (first | exact HR0.out | (with_reducible refine jO ?_ _) | (with_reducible refine jN ?_ _) | (with_reducible refine jS ?_))); (case side2 => exact HC0.out); rintro e w' ⟨rfl, ⟨nd, rfl⟩⟩; refine ⟨_, rfl, ?_⟩))
  (try simp only [Act.put, jE, jI, jJ])
  go_cut [32] (fun v32 wc => ∃ (kq : Nat) (x32_6 : Bool), v32 = .bool x32_6 ∧ Aside0 (spec_MoveGrams.j0 kq l0 a1 a2 a3 x32_6 = some (r1, r2)) ∧ Aside0 (kq ≤ k) ∧ Aside0 (Below w.heap.size w wc))
  case first =>
   have H := HC7.out
   clear HC7
   replace H := jD.mp H
   obtain ⟨t116, A80, H⟩ := H
   replace H : (if t116 = true then ((spec_l01In.f a2 0 (wrap64 ((l0.length : Int) - 1))).bind fun t117 => (if t117 = true then ((spec_l01In.f a3 0 100000000).bind fun t118 => (spec_MoveGrams.j0 k l0 a1 a2 a3 (!t118))) else (spec_MoveGrams.j0 k l0 a1 a2 a3 true))) else (spec_MoveGrams.j0 k l0 a1 a2 a3 true)) = some (r1, r2) := H
   have A8 := jA A80
   clear A80
   by_cases c9 : t116 = true
   ·subst c9
    have H1 : ((spec_l01In.f a2 0 (wrap64 ((l0.length : Int) - 1))).bind fun t117 => (if t117 = true then ((spec_l01In.f a3 0 100000000).bind fun t118 => (spec_MoveGrams.j0 k l0 a1 a2 a3 (!t118))) else (spec_MoveGrams.j0 k l0 a1 a2 a3 true))) = some (r1, r2) := by rw [if_pos rfl] at H; exact H
    clear H
    have H := H1
    clear H1
    replace H := jD.mp H
    obtain ⟨t117, A100, H⟩ := H
    replace H : (if t117 = true then ((spec_l01In.f a3 0 100000000).bind fun t118 => (spec_MoveGrams.j0 k l0 a1 a2 a3 (!t118))) else (spec_MoveGrams.j0 k l0 a1 a2 a3 true)) = some (r1, r2) := H
    have A10 := jA A100
    clear A100
    by_cases c11 : t117 = true
    ·subst c11
     have H1 : ((spec_l01In.f a3 0 100000000).bind fun t118 => (spec_MoveGrams.j0 k l0 a1 a2 a3 (!t118))) = some (r1, r2) := by rw [if_pos rfl] at H; exact H
     clear H
     have H := H1
     clear H1
     replace H := jD.mp H
     obtain ⟨t118, A120, H⟩ := H
     replace H : (spec_MoveGrams.j0 k l0 a1 a2 a3 (!t118)) = some (r1, r2) := H
     have A12 := jA A120
     clear A120
     have H' := jA H
     clear H
     go_wp2_with (first | ((with_reducible refine jH (f := 54) rfl ?_); refine goesL_ (some 20) rfl rfl Try.func54 zr rfl #[.int .i64 a1, .int .i64 0, .int .i64 (wrap64 ((l0.length : Int) - 1))] rfl zm ?_; (with_reducible refine (spec_l01In.calls a1 0 (wrap64 ((l0.length : Int) - 1)) true _ A8.out).mono ?_); rintro e w' ⟨rfl, ⟨nd, rfl⟩⟩; refine ⟨_, rfl, ?_⟩) | (go_at_call 54; (with_reducible refine (spec_l01In.calls a2 0 (wrap64 ((l0.length : Int) - 1)) true _ A10.out).mono ?_); rintro e w' ⟨rfl, ⟨nd, rfl⟩⟩) | (go_at_call 54; (with_reducible refine (spec_l01In.calls a3 0 100000000 t118 _ A12.out).mono ?_); rintro e w' ⟨rfl, ⟨nd, rfl⟩⟩))
     go_meet
     case rel => exact ⟨_, (!t118), zz, H', ⟨by first | omega | exact Nat.le_refl _⟩, ⟨zb0 HB⟩⟩
    ·replace c11 := Bool.eq_false_iff.mpr c11
     subst c11
     have H1 : (spec_MoveGrams.j0 k l0 a1 a2 a3 true) = some (r1, r2) := by rw [if_neg (show ¬ (false = true) by decide)] at H; exact H
     clear H
     have H := H1
     clear H1
     have H' := jA H
     clear H
     go_wp2_with (first | ((with_reducible refine jH (f := 54) rfl ?_); refine goesL_ (some 20) rfl rfl Try.func54 zr rfl #[.int .i64 a1, .int .i64 0, .int .i64 (wrap64 ((l0.length : Int) - 1))] rfl zm ?_; (with_reducible refine (spec_l01In.calls a1 0 (wrap64 ((l0.length : Int) - 1)) true _ A8.out).mono ?_); rintro e w' ⟨rfl, ⟨nd, rfl⟩⟩; refine ⟨_, rfl, ?_⟩) | (go_at_call 54; (with_reducible refine (spec_l01In.calls a2 0 (wrap64 ((l0.length : Int) - 1)) false _ A10.out).mono ?_); rintro e w' ⟨rfl, ⟨nd, rfl⟩⟩))
     go_meet
     case rel => exact ⟨_, (true), zz, H', ⟨by first | omega | exact Nat.le_refl _⟩, ⟨zb0 HB⟩⟩
   ·replace c9 := Bool.eq_false_iff.mpr c9
    subst c9
    have H1 : (spec_MoveGrams.j0 k l0 a1 a2 a3 true) = some (r1, r2) := by rw [if_neg (show ¬ (false = true) by decide)] at H; exact H
    clear H
    have H := H1
    clear H1
    have H' := jA H
    clear H
    go_wp2_with (first | ((with_reducible refine jH (f := 54) rfl ?_); refine goesL_ (some 20) rfl rfl Try.func54 zr rfl #[.int .i64 a1, .int .i64 0, .int .i64 (wrap64 ((l0.length : Int) - 1))] rfl zm ?_; (with_reducible refine (spec_l01In.calls a1 0 (wrap64 ((l0.length : Int) - 1)) false _ A8.out).mono ?_); rintro e w' ⟨rfl, ⟨nd, rfl⟩⟩; refine ⟨_, rfl, ?_⟩))
    go_meet
    case rel => exact ⟨_, (true), zz, H', ⟨by first | omega | exact Nat.le_refl _⟩, ⟨zb0 HB⟩⟩
  case rest =>
   clear HC7
   try clear c1
   try clear c2
   try clear p2
   try clear c3
   try clear c5
   try clear c6
   try clear p6
   try clear c9
   try clear c11
   obtain ⟨kq, x32_6, rfl, HA, HJ6, HB⟩ := hcut
   cases kq with
   | zero => exact absurd HA.out (by simp [spec_MoveGrams.j0])
   | succ kj6 =>
    have H := HA.out
    clear HA
    simp only [spec_MoveGrams.j0] at H
    by_cases c13 : x32_6 = true
    ·subst c13
     have H1 : (some (([] : List (S51)), 2)) = some (r1, r2) := by rw [if_pos rfl] at H; exact H
     clear H
     have H := H1
     clear H1
     simp only [jU, jY] at H
     obtain ⟨rfl, rfl⟩ := H
     go_wp2
     go_ret2
     exact ⟨_, by first | rfl | (simp [errW_none, errW_some] <;> rfl) | (simp [*, errW_none, errW_some] <;> rfl), by first | exact Kd.R_nil _ _ _ _ _ | exact Kd.N_nil _ _ _ _ _ | exact Kd.V_nil _ _ _ _ _ | exact Kd.Q_nil _ _ _ _ _ | exact Kd.S_nil _ _ _ _ _, zb0 HB⟩
    ·replace c13 := Bool.eq_false_iff.mpr c13
     subst c13
     have H1 : ((some (([] : List (S51)) : List (S51))).bind fun y119 => (if y119.length + l0.length < 5864062014805 then ((some (y119 ++ l0 : List (S51))).bind fun y122 => (if 0 ≤ a1 then (if a1 < (y122.length : Int) then ((some (y122.set (a1 : Int).toNat (⟨(rd_T51 y122 a1).f0, (rd_T51 y122 a1).f1, wrap64 (((rd_T51 y122 a1).f2) - a3)⟩ : S51) : List (S51))).bind fun y126 => (if 0 ≤ a2 then (if a2 < (y122.length : Int) then ((some (y126.set (a2 : Int).toNat (⟨(rd_T51 y126 a2).f0, (rd_T51 y126 a2).f1, wrap64 (((rd_T51 y126 a2).f2) + a3)⟩ : S51) : List (S51))).bind fun y128 => (if a1 = a2 then (some (([] : List (S51)), 5)) else ((spec_AreDepots.f kj6 y128).bind fun t129 => (if t129 = true then (some (y128, 0)) else (some (([] : List (S51)), 5)))))) else (none)) else (none))) else (none)) else (none))) else (none))) = some (r1, r2) := by rw [if_neg (show ¬ (false = true) by decide)] at H; exact H
     clear H
     have H := H1
     clear H1
     obtain ⟨y119, hy119⟩ : ∃ y_ : List (S51), y_ = (([] : List (S51))) := ⟨_, rfl⟩
     replace H : (if y119.length + l0.length < 5864062014805 then ((some (y119 ++ l0 : List (S51))).bind fun y122 => (if 0 ≤ a1 then (if a1 < (y122.length : Int) then ((some (y122.set (a1 : Int).toNat (⟨(rd_T51 y122 a1).f0, (rd_T51 y122 a1).f1, wrap64 (((rd_T51 y122 a1).f2) - a3)⟩ : S51) : List (S51))).bind fun y126 => (if 0 ≤ a2 then (if a2 < (y122.length : Int) then ((some (y126.set (a2 : Int).toNat (⟨(rd_T51 y126 a2).f0, (rd_T51 y126 a2).f1, wrap64 (((rd_T51 y126 a2).f2) + a3)⟩ : S51) : List (S51))).bind fun y128 => (if a1 = a2 then (some (([] : List (S51)), 5)) else ((spec_AreDepots.f kj6 y128).bind fun t129 => (if t129 = true then (some (y128, 0)) else (some (([] : List (S51)), 5)))))) else (none)) else (none))) else (none)) else (none))) else (none)) = some (r1, r2) := by first | (rw [hy119]; with_reducible exact H) | (have H2_ := (Option.bind_some _ _).symm.trans H; rw [hy119]; with_reducible exact H2_) | (have H2_ := (Option.bind_some _ _).symm.trans H; with_reducible exact H2_) | with_reducible exact H | (rw [hy119]; exact H) | exact H
     have Ny119 := jA hy119
     clear hy119
     by_cases c14 : y119.length + l0.length < 5864062014805
     ·rw [if_pos c14] at H
      have LMc14 := jA c14
      clear c14
      obtain ⟨y122, hy122⟩ : ∃ y_ : List (S51), y_ = (y119 ++ l0) := ⟨_, rfl⟩
      replace H : (if 0 ≤ a1 then (if a1 < (y122.length : Int) then ((some (y122.set (a1 : Int).toNat (⟨(rd_T51 y122 a1).f0, (rd_T51 y122 a1).f1, wrap64 (((rd_T51 y122 a1).f2) - a3)⟩ : S51) : List (S51))).bind fun y126 => (if 0 ≤ a2 then (if a2 < (y122.length : Int) then ((some (y126.set (a2 : Int).toNat (⟨(rd_T51 y126 a2).f0, (rd_T51 y126 a2).f1, wrap64 (((rd_T51 y126 a2).f2) + a3)⟩ : S51) : List (S51))).bind fun y128 => (if a1 = a2 then (some (([] : List (S51)), 5)) else ((spec_AreDepots.f kj6 y128).bind fun t129 => (if t129 = true then (some (y128, 0)) else (some (([] : List (S51)), 5)))))) else (none)) else (none))) else (none)) else (none)) = some (r1, r2) := by first | (rw [hy122]; with_reducible exact H) | (have H2_ := (Option.bind_some _ _).symm.trans H; rw [hy122]; with_reducible exact H2_) | (have H2_ := (Option.bind_some _ _).symm.trans H; with_reducible exact H2_) | with_reducible exact H | (rw [hy122]; exact H) | exact H
      have Ny122 := jA hy122
      clear hy122
      by_cases c15 : 0 ≤ a1
      ·rw [if_pos c15] at H
       have c15b0 : decide (0 ≤ a1) = true := jG c15
       clear c15
       by_cases c16 : a1 < (y122.length : Int)
       ·rw [if_pos c16] at H
        have c16b0 : decide (a1 < (y122.length : Int)) = true := jG c16
        clear c16
        obtain ⟨y126, hy126⟩ : ∃ y_ : List (S51), y_ = (y122.set (a1 : Int).toNat (⟨(rd_T51 y122 a1).f0, (rd_T51 y122 a1).f1, wrap64 (((rd_T51 y122 a1).f2) - a3)⟩ : S51)) := ⟨_, rfl⟩
        replace H : (if 0 ≤ a2 then (if a2 < (y122.length : Int) then ((some (y126.set (a2 : Int).toNat (⟨(rd_T51 y126 a2).f0, (rd_T51 y126 a2).f1, wrap64 (((rd_T51 y126 a2).f2) + a3)⟩ : S51) : List (S51))).bind fun y128 => (if a1 = a2 then (some (([] : List (S51)), 5)) else ((spec_AreDepots.f kj6 y128).bind fun t129 => (if t129 = true then (some (y128, 0)) else (some (([] : List (S51)), 5)))))) else (none)) else (none)) = some (r1, r2) := by first | (rw [hy126]; with_reducible exact H) | (have H2_ := (Option.bind_some _ _).symm.trans H; rw [hy126]; with_reducible exact H2_) | (have H2_ := (Option.bind_some _ _).symm.trans H; with_reducible exact H2_) | with_reducible exact H | (rw [hy126]; exact H) | exact H
        have Ny126 := jA hy126
        clear hy126
        by_cases c18 : 0 ≤ a2
        ·rw [if_pos c18] at H
         have c18b0 : decide (0 ≤ a2) = true := jG c18
         clear c18
         by_cases c19 : a2 < (y122.length : Int)
         ·rw [if_pos c19] at H
          have c19b0 : decide (a2 < (y122.length : Int)) = true := jG c19
          clear c19
          obtain ⟨y128, hy128⟩ : ∃ y_ : List (S51), y_ = (y126.set (a2 : Int).toNat (⟨(rd_T51 y126 a2).f0, (rd_T51 y126 a2).f1, wrap64 (((rd_T51 y126 a2).f2) + a3)⟩ : S51)) := ⟨_, rfl⟩
          replace H : (if a1 = a2 then (some (([] : List (S51)), 5)) else ((spec_AreDepots.f kj6 y128).bind fun t129 => (if t129 = true then (some (y128, 0)) else (some (([] : List (S51)), 5))))) = some (r1, r2) := by first | (rw [hy128]; with_reducible exact H) | (have H2_ := (Option.bind_some _ _).symm.trans H; rw [hy128]; with_reducible exact H2_) | (have H2_ := (Option.bind_some _ _).symm.trans H; with_reducible exact H2_) | with_reducible exact H | (rw [hy128]; exact H) | exact H
          have Ny128 := jA hy128
          clear hy128
          by_cases c21 : a1 = a2
          ·rw [if_pos c21] at H
           have c21b0 : (a1 == a2) = true := beq_iff_eq.mpr c21
           have c21b1 : (a1 != a2) = false := bne_eq_false_iff_eq.mpr c21
           clear c21
           simp only [jU, jY] at H
           obtain ⟨rfl, rfl⟩ := H
           go_wp2_with (first | ((with_reducible refine gate_dst (N := 33) rfl ?_); refine Kd.R_lit k51 _ 51 ?hg (N := 33) ?hd (xs := ([] : List (S51))) (inner := []) (ok := fun _ => True) (okp := fun _ => True) ?hr ?hp (fun _ hk => hk) trivial (Below.refl _ _) (Nat.le_refl _) (by simp) ?_; (case hd => rfl); (case hg => rfl); (case hr => first | (go_simp; done) | (go_simp; rfl)); (case hp => exact (Reps.none _ _)); intro v120 w22 ho23 hb hg_ hnew_; clear hg_ hnew_; (first | rw [← Ny119.out] at ho23 | (simp only [Int.reduceToNat] at ho23; rw [← Ny119.out] at ho23)); have n0_ := jA (Kd.R_lower ho23 (jW (zb0 HB))); have n1_ := jA (jT (zb0 HB) hb); clear HB; have HO121 := n0_; have HB := n1_; clear n0_ n1_; clear hb ho23) | ((with_reducible refine gate_builtin (b := .append) (xs := #[.tmp 33, .tmp 34]) rfl ?_); at_builtin; refine Kd.R_append_rows k51 (w0 := w) w.heap.size rfl (.tmp 33) (.tmp 34) 28 51 (.agg #[(.int .i64 0), (.int .i64 0), (.int .i64 0)]) 24 rfl Try.underlying28 info51 rfl (by decide) (by omega) v120 y119 l0 _ _ _ (fun _ => True) (fun _ => False) rfl rfl ?aO ?aR (fun _ _ h => h) (fun _ h => h.elim) ?aF ?aB ?aS ?aL ?_; (case aR => repeat (first | exact HR0.out | exact (Kd.C_below HR0.out HB.out) | (with_reducible refine jO ?_ _) | (with_reducible refine jN ?_ _) | (with_reducible refine jS ?_))); (case aB => exact (zb0 HB)); (case aF => exact (fun _ _ => trivial)); (case aO => exact (zo HO121)); (case aS => exact (jW (zb0 HB))); (case aL => have := LMc14.out; omega); intro v123 w24 ho hb hg hat; rw [← Ny122.out] at ho; have n0_ := jA (hb); have n1_ := jA (ho); clear HB; clear HO121; have HB := n0_; have HO124 := n1_; clear n0_ n1_; clear ho hb hg hat; obtain ⟨Ao25, co25, eo25⟩ := Kd.R_slice HO124.out; subst eo25; have p125 : 0 ≤ (a1 : Int) := jB za; have q125 : a1 < (y122.length : Int) := jB za; obtain ⟨ad125, e125, hx125_0, hx125_1, hx125_2⟩ := at_T51 (jF HO124.out).2.2 a1 p125 q125; cases e125; replace p125 := eq_true p125; replace q125 := eq_true q125; have p17 : 0 ≤ (a1 : Int) := jB za; have q17 : (a1 : Int) < ((y122.length : Int) : Int) := jB za; obtain ⟨go17, co17, eo17, gb17, gl17, cl17, HG17⟩ := Kd.R_form HO124.out (by omega); (first | cases eo17 | (injection eo17 with ea_ en_ ec_; (first | subst ea_ | (injection ea_ with ea_; subst ea_)); subst ec_; clear en_)); have GB17 := jA gb17; have GG17 := jA HG17; clear gb17 gl17 HG17; (first | simp only [add_plain] at hx125_0 | skip); (first | simp only [add_plain] at hx125_1 | skip); (first | simp only [add_plain] at hx125_2 | skip); obtain ⟨ce17, hcl17, hM17, hcc17, hfr17⟩ := Kd.R_elem HO124.out z51 (a1 : Int) p17 q17; obtain rfl := k51_openM hM17; have hx17_0 : w24.cell? ⟨go17, (a1 : Int).toNat * 3, none⟩ = some (.int .i64 ((rd_T51 y122 a1).f0)) := hcc17 0 _ rfl; have hx17_1 : w24.cell? ⟨go17, (a1 : Int).toNat * 3 + 1, none⟩ = some (.int .i64 ((rd_T51 y122 a1).f1)) := hcc17 1 _ rfl; have hx17_2 : w24.cell? ⟨go17, (a1 : Int).toNat * 3 + 2, none⟩ = some (.int .i64 ((rd_T51 y122 a1).f2)) := hcc17 2 _ rfl; have hf17_0 : w24.frozen? ⟨go17, (a1 : Int).toNat * 3, none⟩ = false := hfr17 0; have hf17_1 : w24.frozen? ⟨go17, (a1 : Int).toNat * 3 + 1, none⟩ = false := hfr17 1; have hf17_2 : w24.frozen? ⟨go17, (a1 : Int).toNat * 3 + 2, none⟩ = false := hfr17 2; clear hcl17 hcc17 hfr17 hM17; replace p17 := eq_true p17; replace q17 := eq_true q17; have HX26 := jA (show Kd.R k51 51 w24 w.heap.size (fun _ => True) (.slice (some ⟨go17, 0, none⟩) y122.length co25) y122 from (zo HO124)); obtain ⟨ce26, hcl26, hM26, hcc26, hfr26⟩ := Kd.R_elem HX26.out z51 (a1 : Int) (jB za) (by have h_ : (a1 : Int) < ((y122.length : Int) : Int) := jB za; first | exact h_ | (have e_ := (jF HO124.out).1; omega) | simpa using h_); obtain rfl := k51_openM hM26; have HP26 := Kd.R_seg HX26.out (a1 : Int) (jB za) (by have h_ : (a1 : Int) < ((y122.length : Int) : Int) := jB za; first | exact h_ | (have e_ := (jF HO124.out).1; omega) | simpa using h_) (seg := [.int .i64 (wrap64 (((rd_T51 y122 a1).f2) - a3))]) (j := 2) hcl26 hcc26 (show 3 ≤ 3 from by decide) (x' := (⟨(rd_T51 y122 a1).f0, (rd_T51 y122 a1).f1, wrap64 (((rd_T51 y122 a1).f2) - a3)⟩ : S51)) (k51_mkM _ _ _ (⟨(rd_T51 y122 a1).f0, (rd_T51 y122 a1).f1, wrap64 (((rd_T51 y122 a1).f2) - a3)⟩ : S51) ) (fun _ hk => hk); have hx26_2 := hcc26 2 _ rfl; (try simp only [show (k51).sz = 3 from rfl, Nat.mul_one, Nat.add_zero] at hx26_2); have hf26_2 := hfr26 2; (try simp only [show (k51).sz = 3 from rfl, Nat.mul_one, Nat.add_zero] at hf26_2); clear hcl26 hcc26 hfr26 hM26) | ((with_reducible refine gate_store (t := 2) (p := 46) rfl ?_); refine store_event (t := 2) (p := 46) (v := ?vo_w27) (w1 := (w24.setCell ⟨go17, (a1 : Int).toNat * 3 + 2, none⟩ (.int .i64 (wrap64 (((rd_T51 y122 a1).f2) - a3))))) ?hg ?ho ?hn ?hr ?_; (case ho => rfl); (case hg => rfl); (case hn => rfl); (case hr => first | (go_simp; done) | (go_simp; rfl)); intro w27 hw; have hg : w24.grownBy w27 (some go17) := (by rw [hw]; exact HP26.2); have hp_ : Kd.R k51 51 w27 w.heap.size (fun _ => True) (.slice (some ⟨go17, 0, none⟩) y122.length co25) y126 := (by rw [hw, Ny126.out]; exact HP26.1); clear HP26; have n0_ := jA (hp_); have n1_ := jA ((by rw [hw]; exact jQ (HB.out) GB17.out : Below w.heap.size w w27)); clear HO124; clear HB; have HO124 := n0_; have HB := n1_; clear n0_ n1_; clear hg hw hp_; have p127 : 0 ≤ (a2 : Int) := jB za; have q127 : a2 < (y126.length : Int) := (by have h_ : (a2 : Int) < ((y122.length : Int) : Int) := jB za; first | (have e_ := (jF HO124.out).1; omega) | simpa only [Ny126.out, List.length_set] using h_); have ql127 : ((a2 : Int) < ((y122.length : Int) : Int)) = True := eq_true (jB za); obtain ⟨ad127, e127, hx127_0, hx127_1, hx127_2⟩ := at_T51 (jF HO124.out).2.2 a2 p127 q127; obtain rfl : (⟨go17, 0, none⟩ : Addr) = ad127 := (by injection e127); (first | simp only [add_plain] at hx127_0 | simp only [add_at] at hx127_0 | simp only [Addr.add, Nat.zero_add] at hx127_0 | skip); (first | simp only [add_plain] at hx127_1 | simp only [add_at] at hx127_1 | simp only [Addr.add, Nat.zero_add] at hx127_1 | skip); (first | simp only [add_plain] at hx127_2 | simp only [add_at] at hx127_2 | simp only [Addr.add, Nat.zero_add] at hx127_2 | skip); replace p127 := eq_true p127; replace q127 := eq_true q127; have p20 : 0 ≤ (a2 : Int) := jB za; have q20 : (a2 : Int) < ((y122.length : Int) : Int) := jB za; obtain ⟨ce20, hcl20, hM20, hcc20, hfr20⟩ := Kd.R_elem HO124.out z51 (a2 : Int) p20 q20; obtain rfl := k51_openM hM20; have hx20_0 : w27.cell? ⟨go17, (a2 : Int).toNat * 3, none⟩ = some (.int .i64 ((rd_T51 y126 a2).f0)) := hcc20 0 _ rfl; have hx20_1 : w27.cell? ⟨go17, (a2 : Int).toNat * 3 + 1, none⟩ = some (.int .i64 ((rd_T51 y126 a2).f1)) := hcc20 1 _ rfl; have hx20_2 : w27.cell? ⟨go17, (a2 : Int).toNat * 3 + 2, none⟩ = some (.int .i64 ((rd_T51 y126 a2).f2)) := hcc20 2 _ rfl; have hf20_0 : w27.frozen? ⟨go17, (a2 : Int).toNat * 3, none⟩ = false := hfr20 0; have hf20_1 : w27.frozen? ⟨go17, (a2 : Int).toNat * 3 + 1, none⟩ = false := hfr20 1; have hf20_2 : w27.frozen? ⟨go17, (a2 : Int).toNat * 3 + 2, none⟩ = false := hfr20 2; clear hcl20 hcc20 hfr20 hM20; replace p20 := eq_true p20; replace q20 := eq_true q20; have HX28 := jA (show Kd.R k51 51 w27 w.heap.size (fun _ => True) (.slice (some ⟨go17, 0, none⟩) y122.length co25) y126 from (zo HO124)); obtain ⟨ce28, hcl28, hM28, hcc28, hfr28⟩ := Kd.R_elem HX28.out z51 (a2 : Int) (jB za) (by have h_ : (a2 : Int) < ((y122.length : Int) : Int) := jB za; first | exact h_ | (have e_ := (jF HO124.out).1; omega) | simpa using h_); obtain rfl := k51_openM hM28; have HP28 := Kd.R_seg HX28.out (a2 : Int) (jB za) (by have h_ : (a2 : Int) < ((y122.length : Int) : Int) := jB za; first | exact h_ | (have e_ := (jF HO124.out).1; omega) | simpa using h_) (seg := [.int .i64 (wrap64 (((rd_T51 y126 a2).f2) + a3))]) (j := 2) hcl28 hcc28 (show 3 ≤ 3 from by decide) (x' := (⟨(rd_T51 y126 a2).f0, (rd_T51 y126 a2).f1, wrap64 (((rd_T51 y126 a2).f2) + a3)⟩ : S51)) (k51_mkM _ _ _ (⟨(rd_T51 y126 a2).f0, (rd_T51 y126 a2).f1, wrap64 (((rd_T51 y126 a2).f2) + a3)⟩ : S51) ) (fun _ hk => hk); have hx28_2 := hcc28 2 _ rfl; (try simp only [show (k51).sz = 3 from rfl, Nat.mul_one, Nat.add_zero] at hx28_2); have hf28_2 := hfr28 2; (try simp only [show (k51).sz = 3 from rfl, Nat.mul_one, Nat.add_zero] at hf28_2); clear hcl28 hcc28 hfr28 hM28) | ((with_reducible refine gate_store (t := 2) (p := 57) rfl ?_); refine store_event (t := 2) (p := 57) (v := ?vo_w29) (w1 := (w27.setCell ⟨go17, (a2 : Int).toNat * 3 + 2, none⟩ (.int .i64 (wrap64 (((rd_T51 y126 a2).f2) + a3))))) ?hg ?ho ?hn ?hr ?_; (case ho => rfl); (case hg => rfl); (case hn => rfl); (case hr => first | (go_simp; done) | (go_simp; rfl)); intro w29 hw; have hg : w27.grownBy w29 (some go17) := (by rw [hw]; exact HP28.2); have hp_ : Kd.R k51 51 w29 w.heap.size (fun _ => True) (.slice (some ⟨go17, 0, none⟩) y122.length co25) y128 := (by rw [hw, Ny128.out]; exact HP28.1); clear HP28; have n0_ := jA (hp_); have n1_ := jA ((by rw [hw]; exact jQ (HB.out) GB17.out : Below w.heap.size w w29)); clear HO124; clear HB; have HO124 := n0_; have HB := n1_; clear n0_ n1_; clear hg hw hp_))
           go_ret2
           exact ⟨_, by first | rfl | (simp [errW_none, errW_some] <;> rfl) | (simp [*, errW_none, errW_some] <;> rfl), by first | exact Kd.R_nil _ _ _ _ _ | exact Kd.N_nil _ _ _ _ _ | exact Kd.V_nil _ _ _ _ _ | exact Kd.Q_nil _ _ _ _ _ | exact Kd.S_nil _ _ _ _ _, zb0 HB⟩
          ·rw [if_neg c21] at H
           have c21b0 : (a1 == a2) = false := beq_eq_false_iff_ne.mpr c21
           have c21b1 : (a1 != a2) = true := bne_iff_ne.mpr c21
           replace H := jD.mp H
           obtain ⟨t129, A300, H⟩ := H
           replace H : (if t129 = true then (some (y128, 0)) else (some (([] : List (S51)), 5))) = some (r1, r2) := H
           have A30 := jA A300
           clear A300
           by_cases c31 : t129 = true
           ·subst c31
            have H1 : (some (y128, 0)) = some (r1, r2) := by rw [if_pos rfl] at H; exact H
            clear H
            have H := H1
            clear H1
            simp only [jU, jY] at H
            obtain ⟨rfl, rfl⟩ := H
            go_wp2_with (first | ((with_reducible refine gate_dst (N := 33) rfl ?_); refine Kd.R_lit k51 _ 51 ?hg (N := 33) ?hd (xs := ([] : List (S51))) (inner := []) (ok := fun _ => True) (okp := fun _ => True) ?hr ?hp (fun _ hk => hk) trivial (Below.refl _ _) (Nat.le_refl _) (by simp) ?_; (case hd => rfl); (case hg => rfl); (case hr => first | (go_simp; done) | (go_simp; rfl)); (case hp => exact (Reps.none _ _)); intro v120 w32 ho33 hb hg_ hnew_; clear hg_ hnew_; (first | rw [← Ny119.out] at ho33 | (simp only [Int.reduceToNat] at ho33; rw [← Ny119.out] at ho33)); have n0_ := jA (Kd.R_lower ho33 (jW (zb0 HB))); have n1_ := jA (jT (zb0 HB) hb); clear HB; have HO121 := n0_; have HB := n1_; clear n0_ n1_; clear hb ho33) | ((with_reducible refine gate_builtin (b := .append) (xs := #[.tmp 33, .tmp 34]) rfl ?_); at_builtin; refine Kd.R_append_rows k51 (w0 := w) w.heap.size rfl (.tmp 33) (.tmp 34) 28 51 (.agg #[(.int .i64 0), (.int .i64 0), (.int .i64 0)]) 24 rfl Try.underlying28 info51 rfl (by decide) (by omega) v120 y119 l0 _ _ _ (fun _ => True) (fun _ => False) rfl rfl ?aO ?aR (fun _ _ h => h) (fun _ h => h.elim) ?aF ?aB ?aS ?aL ?_; (case aR => repeat (first | exact HR0.out | exact (Kd.C_below HR0.out HB.out) | (with_reducible refine jO ?_ _) | (with_reducible refine jN ?_ _) | (with_reducible refine jS ?_))); (case aB => exact (zb0 HB)); (case aF => exact (fun _ _ => trivial)); (case aO => exact (zo HO121)); (case aS => exact (jW (zb0 HB))); (case aL => have := LMc14.out; omega); intro v123 w34 ho hb hg hat; rw [← Ny122.out] at ho; have n0_ := jA (hb); have n1_ := jA (ho); clear HB; clear HO121; have HB := n0_; have HO124 := n1_; clear n0_ n1_; clear ho hb hg hat; obtain ⟨Ao35, co35, eo35⟩ := Kd.R_slice HO124.out; subst eo35; have p125 : 0 ≤ (a1 : Int) := jB za; have q125 : a1 < (y122.length : Int) := jB za; obtain ⟨ad125, e125, hx125_0, hx125_1, hx125_2⟩ := at_T51 (jF HO124.out).2.2 a1 p125 q125; cases e125; replace p125 := eq_true p125; replace q125 := eq_true q125; have p17 : 0 ≤ (a1 : Int) := jB za; have q17 : (a1 : Int) < ((y122.length : Int) : Int) := jB za; obtain ⟨go17, co17, eo17, gb17, gl17, cl17, HG17⟩ := Kd.R_form HO124.out (by omega); (first | cases eo17 | (injection eo17 with ea_ en_ ec_; (first | subst ea_ | (injection ea_ with ea_; subst ea_)); subst ec_; clear en_)); have GB17 := jA gb17; have GG17 := jA HG17; clear gb17 gl17 HG17; (first | simp only [add_plain] at hx125_0 | skip); (first | simp only [add_plain] at hx125_1 | skip); (first | simp only [add_plain] at hx125_2 | skip); obtain ⟨ce17, hcl17, hM17, hcc17, hfr17⟩ := Kd.R_elem HO124.out z51 (a1 : Int) p17 q17; obtain rfl := k51_openM hM17; have hx17_0 : w34.cell? ⟨go17, (a1 : Int).toNat * 3, none⟩ = some (.int .i64 ((rd_T51 y122 a1).f0)) := hcc17 0 _ rfl; have hx17_1 : w34.cell? ⟨go17, (a1 : Int).toNat * 3 + 1, none⟩ = some (.int .i64 ((rd_T51 y122 a1).f1)) := hcc17 1 _ rfl; have hx17_2 : w34.cell? ⟨go17, (a1 : Int).toNat * 3 + 2, none⟩ = some (.int .i64 ((rd_T51 y122 a1).f2)) := hcc17 2 _ rfl; have hf17_0 : w34.frozen? ⟨go17, (a1 : Int).toNat * 3, none⟩ = false := hfr17 0; have hf17_1 : w34.frozen? ⟨go17, (a1 : Int).toNat * 3 + 1, none⟩ = false := hfr17 1; have hf17_2 : w34.frozen? ⟨go17, (a1 : Int).toNat * 3 + 2, none⟩ = false := hfr17 2; clear hcl17 hcc17 hfr17 hM17; replace p17 := eq_true p17; replace q17 := eq_true q17; have HX36 := jA (show Kd.R k51 51 w34 w.heap.size (fun _ => True) (.slice (some ⟨go17, 0, none⟩) y122.length co35) y122 from (zo HO124)); obtain ⟨ce36, hcl36, hM36, hcc36, hfr36⟩ := Kd.R_elem HX36.out z51 (a1 : Int) (jB za) (by have h_ : (a1 : Int) < ((y122.length : Int) : Int) := jB za; first | exact h_ | (have e_ := (jF HO124.out).1; omega) | simpa using h_); obtain rfl := k51_openM hM36; have HP36 := Kd.R_seg HX36.out (a1 : Int) (jB za) (by have h_ : (a1 : Int) < ((y122.length : Int) : Int) := jB za; first | exact h_ | (have e_ := (jF HO124.out).1; omega) | simpa using h_) (seg := [.int .i64 (wrap64 (((rd_T51 y122 a1).f2) - a3))]) (j := 2) hcl36 hcc36 (show 3 ≤ 3 from by decide) (x' := (⟨(rd_T51 y122 a1).f0, (rd_T51 y122 a1).f1, wrap64 (((rd_T51 y122 a1).f2) - a3)⟩ : S51)) (k51_mkM _ _ _ (⟨(rd_T51 y122 a1).f0, (rd_T51 y122 a1).f1, wrap64 (((rd_T51 y122 a1).f2) - a3)⟩ : S51) ) (fun _ hk => hk); have hx36_2 := hcc36 2 _ rfl; (try simp only [show (k51).sz = 3 from rfl, Nat.mul_one, Nat.add_zero] at hx36_2); have hf36_2 := hfr36 2; (try simp only [show (k51).sz = 3 from rfl, Nat.mul_one, Nat.add_zero] at hf36_2); clear hcl36 hcc36 hfr36 hM36) | ((with_reducible refine gate_store (t := 2) (p := 46) rfl ?_); refine store_event (t := 2) (p := 46) (v := ?vo_w37) (w1 := (w34.setCell ⟨go17, (a1 : Int).toNat * 3 + 2, none⟩ (.int .i64 (wrap64 (((rd_T51 y122 a1).f2) - a3))))) ?hg ?ho ?hn ?hr ?_; (case ho => rfl); (case hg => rfl); (case hn => rfl); (case hr => first | (go_simp; done) | (go_simp; rfl)); intro w37 hw; have hg : w34.grownBy w37 (some go17) := (by rw [hw]; exact HP36.2); have hp_ : Kd.R k51 51 w37 w.heap.size (fun _ => True) (.slice (some ⟨go17, 0, none⟩) y122.length co35) y126 := (by rw [hw, Ny126.out]; exact HP36.1); clear HP36; have n0_ := jA (hp_); have n1_ := jA ((by rw [hw]; exact jQ (HB.out) GB17.out : Below w.heap.size w w37)); clear HO124; clear HB; have HO124 := n0_; have HB := n1_; clear n0_ n1_; clear hg hw hp_; have p127 : 0 ≤ (a2 : Int) := jB za; have q127 : a2 < (y126.length : Int) := (by have h_ : (a2 : Int) < ((y122.length : Int) : Int) := jB za; first | (have e_ := (jF HO124.out).1; omega) | simpa only [Ny126.out, List.length_set] using h_); have ql127 : ((a2 : Int) < ((y122.length : Int) : Int)) = True := eq_true (jB za); obtain ⟨ad127, e127, hx127_0, hx127_1, hx127_2⟩ := at_T51 (jF HO124.out).2.2 a2 p127 q127; obtain rfl : (⟨go17, 0, none⟩ : Addr) = ad127 := (by injection e127); (first | simp only [add_plain] at hx127_0 | simp only [add_at] at hx127_0 | simp only [Addr.add, Nat.zero_add] at hx127_0 | skip); (first | simp only [add_plain] at hx127_1 | simp only [add_at] at hx127_1 | simp only [Addr.add, Nat.zero_add] at hx127_1 | skip); (first | simp only [add_plain] at hx127_2 | simp only [add_at] at hx127_2 | simp only [Addr.add, Nat.zero_add] at hx127_2 | skip); replace p127 := eq_true p127; replace q127 := eq_true q127; have p20 : 0 ≤ (a2 : Int) := jB za; have q20 : (a2 : Int) < ((y122.length : Int) : Int) := jB za; obtain ⟨ce20, hcl20, hM20, hcc20, hfr20⟩ := Kd.R_elem HO124.out z51 (a2 : Int) p20 q20; obtain rfl := k51_openM hM20; have hx20_0 : w37.cell? ⟨go17, (a2 : Int).toNat * 3, none⟩ = some (.int .i64 ((rd_T51 y126 a2).f0)) := hcc20 0 _ rfl; have hx20_1 : w37.cell? ⟨go17, (a2 : Int).toNat * 3 + 1, none⟩ = some (.int .i64 ((rd_T51 y126 a2).f1)) := hcc20 1 _ rfl; have hx20_2 : w37.cell? ⟨go17, (a2 : Int).toNat * 3 + 2, none⟩ = some (.int .i64 ((rd_T51 y126 a2).f2)) := hcc20 2 _ rfl; have hf20_0 : w37.frozen? ⟨go17, (a2 : Int).toNat * 3, none⟩ = false := hfr20 0; have hf20_1 : w37.frozen? ⟨go17, (a2 : Int).toNat * 3 + 1, none⟩ = false := hfr20 1; have hf20_2 : w37.frozen? ⟨go17, (a2 : Int).toNat * 3 + 2, none⟩ = false := hfr20 2; clear hcl20 hcc20 hfr20 hM20; replace p20 := eq_true p20; replace q20 := eq_true q20; have HX38 := jA (show Kd.R k51 51 w37 w.heap.size (fun _ => True) (.slice (some ⟨go17, 0, none⟩) y122.length co35) y126 from (zo HO124)); obtain ⟨ce38, hcl38, hM38, hcc38, hfr38⟩ := Kd.R_elem HX38.out z51 (a2 : Int) (jB za) (by have h_ : (a2 : Int) < ((y122.length : Int) : Int) := jB za; first | exact h_ | (have e_ := (jF HO124.out).1; omega) | simpa using h_); obtain rfl := k51_openM hM38; have HP38 := Kd.R_seg HX38.out (a2 : Int) (jB za) (by have h_ : (a2 : Int) < ((y122.length : Int) : Int) := jB za; first | exact h_ | (have e_ := (jF HO124.out).1; omega) | simpa using h_) (seg := [.int .i64 (wrap64 (((rd_T51 y126 a2).f2) + a3))]) (j := 2) hcl38 hcc38 (show 3 ≤ 3 from by decide) (x' := (⟨(rd_T51 y126 a2).f0, (rd_T51 y126 a2).f1, wrap64 (((rd_T51 y126 a2).f2) + a3)⟩ : S51)) (k51_mkM _ _ _ (⟨(rd_T51 y126 a2).f0, (rd_T51 y126 a2).f1, wrap64 (((rd_T51 y126 a2).f2) + a3)⟩ : S51) ) (fun _ hk => hk); have hx38_2 := hcc38 2 _ rfl; (try simp only [show (k51).sz = 3 from rfl, Nat.mul_one, Nat.add_zero] at hx38_2); have hf38_2 := hfr38 2; (try simp only [show (k51).sz = 3 from rfl, Nat.mul_one, Nat.add_zero] at hf38_2); clear hcl38 hcc38 hfr38 hM38) | ((with_reducible refine gate_store (t := 2) (p := 57) rfl ?_); refine store_event (t := 2) (p := 57) (v := ?vo_w39) (w1 := (w37.setCell ⟨go17, (a2 : Int).toNat * 3 + 2, none⟩ (.int .i64 (wrap64 (((rd_T51 y126 a2).f2) + a3))))) ?hg ?ho ?hn ?hr ?_; (case ho => rfl); (case hg => rfl); (case hn => rfl); (case hr => first | (go_simp; done) | (go_simp; rfl)); intro w39 hw; have hg : w37.grownBy w39 (some go17) := (by rw [hw]; exact HP38.2); have hp_ : Kd.R k51 51 w39 w.heap.size (fun _ => True) (.slice (some ⟨go17, 0, none⟩) y122.length co35) y128 := (by rw [hw, Ny128.out]; exact HP38.1); clear HP38; have n0_ := jA (hp_); have n1_ := jA ((by rw [hw]; exact jQ (HB.out) GB17.out : Below w.heap.size w w39)); clear HO124; clear HB; have HO124 := n0_; have HB := n1_; clear n0_ n1_; clear hg hw hp_) | (go_at_call 20; refine calls_of_args (args' := #[.slice (some ⟨go17, 0, none⟩) y128.length co35]) (by first | (rw [show y128.length = y122.length from (jF HO124.out).1.symm] <;> rfl) | rfl) ?_; (with_reducible refine (spec_AreDepots.calls kj6 _ _ y128 true _ ?side1 ?side2 A30.out).mono ?_); (case side1 => repeat (first | exact (jF HO124.out).2.2 | (with_reducible refine jO ?_ _) | (with_reducible refine jN ?_ _) | (with_reducible refine jS ?_))); (case side2 => rw [show y128.length = y122.length from (jF HO124.out).1.symm]; exact (jF HO124.out).2.1); rintro e w' ⟨rfl, ⟨nd, rfl⟩⟩))
            go_ret2
            exact ⟨_, by first | rfl | (simp [errW_none, errW_some] <;> rfl) | (simp [*, errW_none, errW_some] <;> rfl), by (with_reducible repeat (first | apply ja | apply jZ | apply jX)); exact HO124.out, zb0 HB⟩
           ·replace c31 := Bool.eq_false_iff.mpr c31
            subst c31
            have H1 : (some (([] : List (S51)), 5)) = some (r1, r2) := by rw [if_neg (show ¬ (false = true) by decide)] at H; exact H
            clear H
            have H := H1
            clear H1
            simp only [jU, jY] at H
            obtain ⟨rfl, rfl⟩ := H
            go_wp2_with (first | ((with_reducible refine gate_dst (N := 33) rfl ?_); refine Kd.R_lit k51 _ 51 ?hg (N := 33) ?hd (xs := ([] : List (S51))) (inner := []) (ok := fun _ => True) (okp := fun _ => True) ?hr ?hp (fun _ hk => hk) trivial (Below.refl _ _) (Nat.le_refl _) (by simp) ?_; (case hd => rfl); (case hg => rfl); (case hr => first | (go_simp; done) | (go_simp; rfl)); (case hp => exact (Reps.none _ _)); intro v120 w40 ho41 hb hg_ hnew_; clear hg_ hnew_; (first | rw [← Ny119.out] at ho41 | (simp only [Int.reduceToNat] at ho41; rw [← Ny119.out] at ho41)); have n0_ := jA (Kd.R_lower ho41 (jW (zb0 HB))); have n1_ := jA (jT (zb0 HB) hb); clear HB; have HO121 := n0_; have HB := n1_; clear n0_ n1_; clear hb ho41) | ((with_reducible refine gate_builtin (b := .append) (xs := #[.tmp 33, .tmp 34]) rfl ?_); at_builtin; refine Kd.R_append_rows k51 (w0 := w) w.heap.size rfl (.tmp 33) (.tmp 34) 28 51 (.agg #[(.int .i64 0), (.int .i64 0), (.int .i64 0)]) 24 rfl Try.underlying28 info51 rfl (by decide) (by omega) v120 y119 l0 _ _ _ (fun _ => True) (fun _ => False) rfl rfl ?aO ?aR (fun _ _ h => h) (fun _ h => h.elim) ?aF ?aB ?aS ?aL ?_; (case aR => repeat (first | exact HR0.out | exact (Kd.C_below HR0.out HB.out) | (with_reducible refine jO ?_ _) | (with_reducible refine jN ?_ _) | (with_reducible refine jS ?_))); (case aB => exact (zb0 HB)); (case aF => exact (fun _ _ => trivial)); (case aO => exact (zo HO121)); (case aS => exact (jW (zb0 HB))); (case aL => have := LMc14.out; omega); intro v123 w42 ho hb hg hat; rw [← Ny122.out] at ho; have n0_ := jA (hb); have n1_ := jA (ho); clear HB; clear HO121; have HB := n0_; have HO124 := n1_; clear n0_ n1_; clear ho hb hg hat; obtain ⟨Ao43, co43, eo43⟩ := Kd.R_slice HO124.out; subst eo43; have p125 : 0 ≤ (a1 : Int) := jB za; have q125 : a1 < (y122.length : Int) := jB za; obtain ⟨ad125, e125, hx125_0, hx125_1, hx125_2⟩ := at_T51 (jF HO124.out).2.2 a1 p125 q125; cases e125; replace p125 := eq_true p125; replace q125 := eq_true q125; have p17 : 0 ≤ (a1 : Int) := jB za; have q17 : (a1 : Int) < ((y122.length : Int) : Int) := jB za; obtain ⟨go17, co17, eo17, gb17, gl17, cl17, HG17⟩ := Kd.R_form HO124.out (by omega); (first | cases eo17 | (injection eo17 with ea_ en_ ec_; (first | subst ea_ | (injection ea_ with ea_; subst ea_)); subst ec_; clear en_)); have GB17 := jA gb17; have GG17 := jA HG17; clear gb17 gl17 HG17; (first | simp only [add_plain] at hx125_0 | skip); (first | simp only [add_plain] at hx125_1 | skip); (first | simp only [add_plain] at hx125_2 | skip); obtain ⟨ce17, hcl17, hM17, hcc17, hfr17⟩ := Kd.R_elem HO124.out z51 (a1 : Int) p17 q17; obtain rfl := k51_openM hM17; have hx17_0 : w42.cell? ⟨go17, (a1 : Int).toNat * 3, none⟩ = some (.int .i64 ((rd_T51 y122 a1).f0)) := hcc17 0 _ rfl; have hx17_1 : w42.cell? ⟨go17, (a1 : Int).toNat * 3 + 1, none⟩ = some (.int .i64 ((rd_T51 y122 a1).f1)) := hcc17 1 _ rfl; have hx17_2 : w42.cell? ⟨go17, (a1 : Int).toNat * 3 + 2, none⟩ = some (.int .i64 ((rd_T51 y122 a1).f2)) := hcc17 2 _ rfl; have hf17_0 : w42.frozen? ⟨go17, (a1 : Int).toNat * 3, none⟩ = false := hfr17 0; have hf17_1 : w42.frozen? ⟨go17, (a1 : Int).toNat * 3 + 1, none⟩ = false := hfr17 1; have hf17_2 : w42.frozen? ⟨go17, (a1 : Int).toNat * 3 + 2, none⟩ = false := hfr17 2; clear hcl17 hcc17 hfr17 hM17; replace p17 := eq_true p17; replace q17 := eq_true q17; have HX44 := jA (show Kd.R k51 51 w42 w.heap.size (fun _ => True) (.slice (some ⟨go17, 0, none⟩) y122.length co43) y122 from (zo HO124)); obtain ⟨ce44, hcl44, hM44, hcc44, hfr44⟩ := Kd.R_elem HX44.out z51 (a1 : Int) (jB za) (by have h_ : (a1 : Int) < ((y122.length : Int) : Int) := jB za; first | exact h_ | (have e_ := (jF HO124.out).1; omega) | simpa using h_); obtain rfl := k51_openM hM44; have HP44 := Kd.R_seg HX44.out (a1 : Int) (jB za) (by have h_ : (a1 : Int) < ((y122.length : Int) : Int) := jB za; first | exact h_ | (have e_ := (jF HO124.out).1; omega) | simpa using h_) (seg := [.int .i64 (wrap64 (((rd_T51 y122 a1).f2) - a3))]) (j := 2) hcl44 hcc44 (show 3 ≤ 3 from by decide) (x' := (⟨(rd_T51 y122 a1).f0, (rd_T51 y122 a1).f1, wrap64 (((rd_T51 y122 a1).f2) - a3)⟩ : S51)) (k51_mkM _ _ _ (⟨(rd_T51 y122 a1).f0, (rd_T51 y122 a1).f1, wrap64 (((rd_T51 y122 a1).f2) - a3)⟩ : S51) ) (fun _ hk => hk); have hx44_2 := hcc44 2 _ rfl; (try simp only [show (k51).sz = 3 from rfl, Nat.mul_one, Nat.add_zero] at hx44_2); have hf44_2 := hfr44 2; (try simp only [show (k51).sz = 3 from rfl, Nat.mul_one, Nat.add_zero] at hf44_2); clear hcl44 hcc44 hfr44 hM44) | ((with_reducible refine gate_store (t := 2) (p := 46) rfl ?_); refine store_event (t := 2) (p := 46) (v := ?vo_w45) (w1 := (w42.setCell ⟨go17, (a1 : Int).toNat * 3 + 2, none⟩ (.int .i64 (wrap64 (((rd_T51 y122 a1).f2) - a3))))) ?hg ?ho ?hn ?hr ?_; (case ho => rfl); (case hg => rfl); (case hn => rfl); (case hr => first | (go_simp; done) | (go_simp; rfl)); intro w45 hw; have hg : w42.grownBy w45 (some go17) := (by rw [hw]; exact HP44.2); have hp_ : Kd.R k51 51 w45 w.heap.size (fun _ => True) (.slice (some ⟨go17, 0, none⟩) y122.length co43) y126 := (by rw [hw, Ny126.out]; exact HP44.1); clear HP44; have n0_ := jA (hp_); have n1_ := jA ((by rw [hw]; exact jQ (HB.out) GB17.out : Below w.heap.size w w45)); clear HO124; clear HB; have HO124 := n0_; have HB := n1_; clear n0_ n1_; clear hg hw hp_; have p127 : 0 ≤ (a2 : Int) := jB za; have q127 : a2 < (y126.length : Int) := (by have h_ : (a2 : Int) < ((y122.length : Int) : Int) := jB za; first | (have e_ := (jF HO124.out).1; omega) | simpa only [Ny126.out, List.length_set] using h_); have ql127 : ((a2 : Int) < ((y122.length : Int) : Int)) = True := eq_true (jB za); obtain ⟨ad127, e127, hx127_0, hx127_1, hx127_2⟩ := at_T51 (jF HO124.out).2.2 a2 p127 q127; obtain rfl : (⟨go17, 0, none⟩ : Addr) = ad127 := (by injection e127); (first | simp only [add_plain] at hx127_0 | simp only [add_at] at hx127_0 | simp only [Addr.add, Nat.zero_add] at hx127_0 | skip); (first | simp only [add_plain] at hx127_1 | simp only [add_at] at hx127_1 | simp only [Addr.add, Nat.zero_add] at hx127_1 | skip); (first | simp only [add_plain] at hx127_2 | simp only [add_at] at hx127_2 | simp only [Addr.add, Nat.zero_add] at hx127_2 | skip); replace p127 := eq_true p127; replace q127 := eq_true q127; have p20 : 0 ≤ (a2 : Int) := jB za; have q20 : (a2 : Int) < ((y122.length : Int) : Int) := jB za; obtain ⟨ce20, hcl20, hM20, hcc20, hfr20⟩ := Kd.R_elem HO124.out z51 (a2 : Int) p20 q20; obtain rfl := k51_openM hM20; have hx20_0 : w45.cell? ⟨go17, (a2 : Int).toNat * 3, none⟩ = some (.int .i64 ((rd_T51 y126 a2).f0)) := hcc20 0 _ rfl; have hx20_1 : w45.cell? ⟨go17, (a2 : Int).toNat * 3 + 1, none⟩ = some (.int .i64 ((rd_T51 y126 a2).f1)) := hcc20 1 _ rfl; have hx20_2 : w45.cell? ⟨go17, (a2 : Int).toNat * 3 + 2, none⟩ = some (.int .i64 ((rd_T51 y126 a2).f2)) := hcc20 2 _ rfl; have hf20_0 : w45.frozen? ⟨go17, (a2 : Int).toNat * 3, none⟩ = false := hfr20 0; have hf20_1 : w45.frozen? ⟨go17, (a2 : Int).toNat * 3 + 1, none⟩ = false := hfr20 1; have hf20_2 : w45.frozen? ⟨go17, (a2 : Int).toNat * 3 + 2, none⟩ = false := hfr20 2; clear hcl20 hcc20 hfr20 hM20; replace p20 := eq_true p20; replace q20 := eq_true q20; have HX46 := jA (show Kd.R k51 51 w45 w.heap.size (fun _ => True) (.slice (some ⟨go17, 0, none⟩) y122.length co43) y126 from (zo HO124)); obtain ⟨ce46, hcl46, hM46, hcc46, hfr46⟩ := Kd.R_elem HX46.out z51 (a2 : Int) (jB za) (by have h_ : (a2 : Int) < ((y122.length : Int) : Int) := jB za; first | exact h_ | (have e_ := (jF HO124.out).1; omega) | simpa using h_); obtain rfl := k51_openM hM46; have HP46 := Kd.R_seg HX46.out (a2 : Int) (jB za) (by have h_ : (a2 : Int) < ((y122.length : Int) : Int) := jB za; first | exact h_ | (have e_ := (jF HO124.out).1; omega) | simpa using h_) (seg := [.int .i64 (wrap64 (((rd_T51 y126 a2).f2) + a3))]) (j := 2) hcl46 hcc46 (show 3 ≤ 3 from by decide) (x' := (⟨(rd_T51 y126 a2).f0, (rd_T51 y126 a2).f1, wrap64 (((rd_T51 y126 a2).f2) + a3)⟩ : S51)) (k51_mkM _ _ _ (⟨(rd_T51 y126 a2).f0, (rd_T51 y126 a2).f1, wrap64 (((rd_T51 y126 a2).f2) + a3)⟩ : S51) ) (fun _ hk => hk); have hx46_2 := hcc46 2 _ rfl; (try simp only [show (k51).sz = 3 from rfl, Nat.mul_one, Nat.add_zero] at hx46_2); have hf46_2 := hfr46 2; (try simp only [show (k51).sz = 3 from rfl, Nat.mul_one, Nat.add_zero] at hf46_2); clear hcl46 hcc46 hfr46 hM46) | ((with_reducible refine gate_store (t := 2) (p := 57) rfl ?_); refine store_event (t := 2) (p := 57) (v := ?vo_w47) (w1 := (w45.setCell ⟨go17, (a2 : Int).toNat * 3 + 2, none⟩ (.int .i64 (wrap64 (((rd_T51 y126 a2).f2) + a3))))) ?hg ?ho ?hn ?hr ?_; (case ho => rfl); (case hg => rfl); (case hn => rfl); (case hr => first | (go_simp; done) | (go_simp; rfl)); intro w47 hw; have hg : w45.grownBy w47 (some go17) := (by rw [hw]; exact HP46.2); have hp_ : Kd.R k51 51 w47 w.heap.size (fun _ => True) (.slice (some ⟨go17, 0, none⟩) y122.length co43) y128 := (by rw [hw, Ny128.out]; exact HP46.1); clear HP46; have n0_ := jA (hp_); have n1_ := jA ((by rw [hw]; exact jQ (HB.out) GB17.out : Below w.heap.size w w47)); clear HO124; clear HB; have HO124 := n0_; have HB := n1_; clear n0_ n1_; clear hg hw hp_) | (go_at_call 20; refine calls_of_args (args' := #[.slice (some ⟨go17, 0, none⟩) y128.length co43]) (by first | (rw [show y128.length = y122.length from (jF HO124.out).1.symm] <;> rfl) | rfl) ?_; (with_reducible refine (spec_AreDepots.calls kj6 _ _ y128 false _ ?side1 ?side2 A30.out).mono ?_); (case side1 => repeat (first | exact (jF HO124.out).2.2 | (with_reducible refine jO ?_ _) | (with_reducible refine jN ?_ _) | (with_reducible refine jS ?_))); (case side2 => rw [show y128.length = y122.length from (jF HO124.out).1.symm]; exact (jF HO124.out).2.1); rintro e w' ⟨rfl, ⟨nd, rfl⟩⟩))
            go_ret2
            exact ⟨_, by first | rfl | (simp [errW_none, errW_some] <;> rfl) | (simp [*, errW_none, errW_some] <;> rfl), by first | exact Kd.R_nil _ _ _ _ _ | exact Kd.N_nil _ _ _ _ _ | exact Kd.V_nil _ _ _ _ _ | exact Kd.Q_nil _ _ _ _ _ | exact Kd.S_nil _ _ _ _ _, zb0 HB⟩
         ·rw [if_neg c19] at H
          exact absurd H (by simp)
        ·rw [if_neg c18] at H
         exact absurd H (by simp)
       ·rw [if_neg c16] at H
        exact absurd H (by simp)
      ·rw [if_neg c15] at H
       exact absurd H (by simp)
     ·rw [if_neg c14] at H
      exact absurd H (by simp)
 ·replace c6 := Bool.eq_false_iff.mpr c6
  subst c6
  have H1 : (some (([] : List (S51)), 1)) = some (r1, r2) := by rw [if_neg (show ¬ (false = true) by decide)] at H; exact H
  clear H
  have H := H1
  clear H1
  simp only [jU, jY] at H
  obtain ⟨rfl, rfl⟩ := H
  go_enter Try.func33, Try.ntmps33
  go_wp2_with (first | ((with_reducible refine jH (f := 20) rfl ?_); refine goesL_ (some 13) rfl rfl Try.func20 zr rfl #[.slice A0 l0.length c0] rfl zm ?_; (with_reducible refine (spec_AreDepots.calls k _ _ l0 false _ ?side1 ?side2 A5.out).mono ?_); (case side1 => repeat (first | exact HR0.out | (with_reducible refine jO ?_ _) | (with_reducible refine jN ?_ _) | (with_reducible refine jS ?_))); (case side2 => exact HC0.out); rintro e w' ⟨rfl, ⟨nd, rfl⟩⟩; refine ⟨_, rfl, ?_⟩))
  go_ret2
  exact ⟨_, by first | rfl | (simp [errW_none, errW_some] <;> rfl) | (simp [*, errW_none, errW_some] <;> rfl), by first | exact Kd.R_nil _ _ _ _ _ | exact Kd.N_nil _ _ _ _ _ | exact Kd.V_nil _ _ _ _ _ | exact Kd.Q_nil _ _ _ _ _ | exact Kd.S_nil _ _ _ _ _, zb0 HB⟩

/-! ### impl_isIndex: function 73 -/
def impl_isIndex.f (a0 : Int) (a1 : Int) : Option (Bool) := (impl_within.f a0 0 (wrap64 (a1 - 1))).bind fun t130 => (some t130)
set_option maxHeartbeats 8000000 in
set_option maxRecDepth 100000 in
theorem impl_isIndex.calls (a0 : Int) (a1 : Int) (r : Bool) (w : World) (h : impl_isIndex.f a0 a1 = some r) :
  Calls Try.prog 73 #[.int .i64 a0, .int .i64 a1] w fun e w' => e = .returned (.bool r) ∧ Drawn0 w w' := by
 have H : ((impl_within.f a0 0 (wrap64 (a1 - 1))).bind fun t130 => (some t130)) = some r := h
 clear h
 replace H := jD.mp H
 obtain ⟨t130, A30, H⟩ := H
 replace H : (some t130) = some r := H
 have A3 := jA A30
 clear A30
 obtain rfl := jM H
 go_enter Try.func73, Try.ntmps73
 go_wp2_with (first | ((with_reducible refine jH (f := 57) rfl ?_); refine goesL_ (some 8) rfl rfl Try.func57 zr rfl #[.int .i64 a0, .int .i64 0, .int .i64 (wrap64 (a1 - 1))] rfl zm ?_; (with_reducible refine (impl_within.calls a0 0 (wrap64 (a1 - 1)) t130 _ A3.out).mono ?_); rintro e w' ⟨rfl, ⟨nd, rfl⟩⟩; refine ⟨_, rfl, ?_⟩))
 go_ret
 exact ⟨by first | rfl | (simp; done) | (simp [*]; done), by repeat (first | exact Drawn0.refl _ | apply Drawn0.step)⟩

end Go.Proofs.Ytmhnkhealidjjaa.PFnDepots
