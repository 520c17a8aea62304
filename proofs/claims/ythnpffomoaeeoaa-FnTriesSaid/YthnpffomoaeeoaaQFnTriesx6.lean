/- Functions and contracts that FnTries reaches (7 of 13). -/
import Derived.Test.YthnpffomoaeeoaaQFnTriesx5
namespace Go.Proofs.Ythnpffomoaeeoaa.PFnTries
open Go.RowKit Go.Proofs.YthnpffomoaeeoaaW.PrintWords Go.Proofs.YthnpffomoaeeoaaW.PrintLast Go.Proofs.YthnpffomoaeeoaaW.PrintMore
attribute [local go_sem] max2_int min2_int max_two min_two max_three min_three max_four min_four   -- for this text's walks alone
set_option linter.unusedVariables false
set_option linter.unusedSimpArgs false

/-! ### spec_l24Code: function 55 -/
def spec_l24Code.f (k : Nat) (l0 : List (S36)) (a1 : Int) : Option (Int) := (spec_AreTries.f k l0).bind fun t192 => (if t192 = true then ((spec_l01In.f a1 0 19).bind fun t193 => (if t193 = true then (some 0) else (some 2))) else (some 1))
theorem spec_l24Code.mono : ∀ a0 a1 k, LeO (spec_l24Code.f k a0 a1) (spec_l24Code.f (k + 1) a0 a1) := by
 intro a0 a1 k
 unfold spec_l24Code.f
 repeat' first
   | (with_reducible exact spec_AreTries.mono _ _)
   | (with_reducible exact LeO.refl _)
   | (with_reducible exact LeO.none _)
   | (with_reducible refine LeO.ite ?_ ?_)
   | (with_reducible refine LeO.bind ?_ (fun _ => ?_))
   | exact spec_AreTries.mono _ _
   | exact LeO.none _
   | refine LeO.ite ?_ ?_
   | refine LeO.bind ?_ (fun _ => ?_)
set_option maxHeartbeats 8000000 in
set_option maxRecDepth 100000 in
theorem spec_l24Code.calls (k : Nat) (A0 : Option Addr) (c0 : Nat) (l0 : List (S36)) (a1 : Int) (r : Int) (w : World) (hr0 : Kd.C k36 w A0 l0.length l0) (hc0 : l0.length ≤ c0) (h : spec_l24Code.f k l0 a1 = some r) :
  Calls Try.prog 55 #[.slice A0 l0.length c0, .int .i64 a1] w fun e w' => e = .returned (.int .i64 r) ∧ Below w.heap.size w w' := by
 have HR0 := jA hr0
 have HC0 := jA hc0
 clear hr0 hc0
 have HB := jA (Below.refl w.heap.size w)
 have H : ((spec_AreTries.f k l0).bind fun t192 => (if t192 = true then ((spec_l01In.f a1 0 19).bind fun t193 => (if t193 = true then (some 0) else (some 2))) else (some 1))) = some r := h
 clear h
 replace H := jG.mp H
 obtain ⟨t192, A30, H⟩ := H
 replace H : (if t192 = true then ((spec_l01In.f a1 0 19).bind fun t193 => (if t193 = true then (some 0) else (some 2))) else (some 1)) = some r := H
 have A3 := jA A30
 clear A30
 by_cases c4 : t192 = true
 ·subst c4
  have H1 : ((spec_l01In.f a1 0 19).bind fun t193 => (if t193 = true then (some 0) else (some 2))) = some r := by rw [if_pos rfl] at H; exact H
  clear H
  have H := H1
  clear H1
  replace H := jG.mp H
  obtain ⟨t193, A50, H⟩ := H
  replace H : (if t193 = true then (some 0) else (some 2)) = some r := H
  have A5 := jA A50
  clear A50
  by_cases c6 : t193 = true
  ·subst c6
   have H1 : (some 0) = some r := by rw [if_pos rfl] at H; exact H
   clear H
   have H := H1
   clear H1
   obtain rfl := je H
   go_enter Try.func55, Try.ntmps55
   go_wp2_with (first | ((with_reducible refine jU (f := 14) rfl ?_); refine goesL_ (some 6) rfl rfl Try.func14 zr rfl #[.slice A0 l0.length c0] rfl zm ?_; (with_reducible refine (spec_AreTries.calls k _ _ l0 true _ ?side1 ?side2 A3.out).mono ?_); (case side1 => repeat (first | exact HR0.out | (with_reducible refine jN ?_ _) | (with_reducible refine jM ?_ _) | (with_reducible refine jT ?_))); (case side2 => exact HC0.out); rintro e w7 ⟨rfl, hb⟩; refine ⟨_, rfl, ?_⟩; have n0_ := jA (jH (zb0 HB) hb); clear HB; have HB := n0_; clear n0_; (try clear hb); (try clear hb2); (try clear hk); (try clear hi)) | ((with_reducible refine jU (f := 47) rfl ?_); refine goesL_ (some 9) rfl rfl Try.func47 zr rfl #[.int .i64 a1, .int .i64 0, .int .i64 19] rfl zm ?_; (with_reducible refine (spec_l01In.calls a1 0 19 true _ A5.out).mono ?_); rintro e w' ⟨rfl, ⟨nd, rfl⟩⟩; refine ⟨_, rfl, ?_⟩))
   go_ret
   exact ⟨by first | rfl | (simp [errW_none, errW_some] <;> rfl) | (simp [*, errW_none, errW_some] <;> rfl), zb0 HB⟩
  ·replace c6 := Bool.eq_false_iff.mpr c6
   subst c6
   have H1 : (some 2) = some r := by rw [if_neg (show ¬ (false = true) by decide)] at H; exact H
   clear H
   have H := H1
   clear H1
   obtain rfl := je H
   go_enter Try.func55, Try.ntmps55
   go_wp2_with (first | ((with_reducible refine jU (f := 14) rfl ?_); refine goesL_ (some 6) rfl rfl Try.func14 zr rfl #[.slice A0 l0.length c0] rfl zm ?_; (with_reducible refine (spec_AreTries.calls k _ _ l0 true _ ?side1 ?side2 A3.out).mono ?_); (case side1 => repeat (first | exact HR0.out | (with_reducible refine jN ?_ _) | (with_reducible refine jM ?_ _) | (with_reducible refine jT ?_))); (case side2 => exact HC0.out); rintro e w8 ⟨rfl, hb⟩; refine ⟨_, rfl, ?_⟩; have n0_ := jA (jH (zb0 HB) hb); clear HB; have HB := n0_; clear n0_; (try clear hb); (try clear hb2); (try clear hk); (try clear hi)) | ((with_reducible refine jU (f := 47) rfl ?_); refine goesL_ (some 9) rfl rfl Try.func47 zr rfl #[.int .i64 a1, .int .i64 0, .int .i64 19] rfl zm ?_; (with_reducible refine (spec_l01In.calls a1 0 19 false _ A5.out).mono ?_); rintro e w' ⟨rfl, ⟨nd, rfl⟩⟩; refine ⟨_, rfl, ?_⟩))
   go_ret
   exact ⟨by first | rfl | (simp [errW_none, errW_some] <;> rfl) | (simp [*, errW_none, errW_some] <;> rfl), zb0 HB⟩
 ·replace c4 := Bool.eq_false_iff.mpr c4
  subst c4
  have H1 : (some 1) = some r := by rw [if_neg (show ¬ (false = true) by decide)] at H; exact H
  clear H
  have H := H1
  clear H1
  obtain rfl := je H
  go_enter Try.func55, Try.ntmps55
  go_wp2_with (first | ((with_reducible refine jU (f := 14) rfl ?_); refine goesL_ (some 6) rfl rfl Try.func14 zr rfl #[.slice A0 l0.length c0] rfl zm ?_; (with_reducible refine (spec_AreTries.calls k _ _ l0 false _ ?side1 ?side2 A3.out).mono ?_); (case side1 => repeat (first | exact HR0.out | (with_reducible refine jN ?_ _) | (with_reducible refine jM ?_ _) | (with_reducible refine jT ?_))); (case side2 => exact HC0.out); rintro e w9 ⟨rfl, hb⟩; refine ⟨_, rfl, ?_⟩; have n0_ := jA (jH (zb0 HB) hb); clear HB; have HB := n0_; clear n0_; (try clear hb); (try clear hb2); (try clear hk); (try clear hi)))
  go_ret
  exact ⟨by first | rfl | (simp [errW_none, errW_some] <;> rfl) | (simp [*, errW_none, errW_some] <;> rfl), zb0 HB⟩

/-! ### spec_l24State: function 58 -/
def spec_l24State.f (k : Nat) (l0 : List (S36)) (a1 : Int) : Option (Int) := (spec_l24Of.f k l0 a1).bind fun bt194 => (if bt194.2 = true then (some 2) else (if (bt194.1.length : Int) = 0 then (some 0) else (if (bt194.1.length : Int) = 3 then (some 3) else (some 1))))
theorem spec_l24State.mono : ∀ a0 a1 k, LeO (spec_l24State.f k a0 a1) (spec_l24State.f (k + 1) a0 a1) := by
 intro a0 a1 k
 unfold spec_l24State.f
 repeat' first
   | (with_reducible exact spec_l24Of.mono _ _ _)
   | (with_reducible exact LeO.refl _)
   | (with_reducible exact LeO.none _)
   | (with_reducible refine LeO.ite ?_ ?_)
   | (with_reducible refine LeO.bind ?_ (fun _ => ?_))
   | exact spec_l24Of.mono _ _ _
   | exact LeO.none _
   | refine LeO.ite ?_ ?_
   | refine LeO.bind ?_ (fun _ => ?_)
set_option maxHeartbeats 8000000 in
set_option maxRecDepth 100000 in
theorem spec_l24State.calls (k : Nat) (A0 : Option Addr) (c0 : Nat) (l0 : List (S36)) (a1 : Int) (r : Int) (w : World) (hr0 : Kd.C k36 w A0 l0.length l0) (hc0 : l0.length ≤ c0) (h : spec_l24State.f k l0 a1 = some r) :
  Calls Try.prog 58 #[.slice A0 l0.length c0, .int .i64 a1] w fun e w' => e = .returned (.int .i64 r) ∧ Below w.heap.size w w' := by
 have HR0 := jA hr0
 have HC0 := jA hc0
 clear hr0 hc0
 have HB := jA (Below.refl w.heap.size w)
 have H : ((spec_l24Of.f k l0 a1).bind fun bt194 => (if bt194.2 = true then (some 2) else (if (bt194.1.length : Int) = 0 then (some 0) else (if (bt194.1.length : Int) = 3 then (some 3) else (some 1))))) = some r := h
 clear h
 replace H := jG.mp H
 obtain ⟨⟨t194, t195⟩, A30, H⟩ := H
 replace H : (if t195 = true then (some 2) else (if (t194.length : Int) = 0 then (some 0) else (if (t194.length : Int) = 3 then (some 3) else (some 1)))) = some r := H
 have A3 := jA A30
 clear A30
 by_cases c4 : t195 = true
 ·subst c4
  have H1 : (some 2) = some r := by rw [if_pos rfl] at H; exact H
  clear H
  have H := H1
  clear H1
  obtain rfl := je H
  go_enter Try.func58, Try.ntmps58
  go_wp2_with (first | ((with_reducible refine jU (f := 48) rfl ?_); refine goesL_ (some 10) rfl rfl Try.func48 zr rfl #[.slice A0 l0.length c0, .int .i64 a1] rfl zm ?_; (with_reducible refine (spec_l24Of.calls k _ _ l0 a1 t194 true _ ?side1 ?side2 A3.out).mono ?_); (case side1 => repeat (first | exact HR0.out | (with_reducible refine jN ?_ _) | (with_reducible refine jM ?_ _) | (with_reducible refine jT ?_))); (case side2 => exact HC0.out); rintro e w5 ⟨v196, rfl, ho0, hb⟩; refine ⟨_, rfl, ?_⟩; have n0_ := jA (jc ho0 (jP (zb0 HB))); have n1_ := jA (jH (zb0 HB) hb); clear HB; have HO197 := n0_; have HB := n1_; clear n0_ n1_; (try clear hb); (try clear hb2); (try clear hk); (try clear hi); (try clear ho0)))
  go_ret
  exact ⟨by first | rfl | (simp [errW_none, errW_some] <;> rfl) | (simp [*, errW_none, errW_some] <;> rfl), zb0 HB⟩
 ·replace c4 := Bool.eq_false_iff.mpr c4
  subst c4
  have H1 : (if (t194.length : Int) = 0 then (some 0) else (if (t194.length : Int) = 3 then (some 3) else (some 1))) = some r := by rw [if_neg (show ¬ (false = true) by decide)] at H; exact H
  clear H
  have H := H1
  clear H1
  by_cases c6 : (t194.length : Int) = 0
  ·rw [if_pos c6] at H
   have c6b0 : ((t194.length : Int) == 0) = true := beq_iff_eq.mpr c6
   have c6b1 : ((t194.length : Int) != 0) = false := bne_eq_false_iff_eq.mpr c6
   clear c6
   obtain rfl := je H
   go_enter Try.func58, Try.ntmps58
   go_wp2_with (first | ((with_reducible refine jU (f := 48) rfl ?_); refine goesL_ (some 10) rfl rfl Try.func48 zr rfl #[.slice A0 l0.length c0, .int .i64 a1] rfl zm ?_; (with_reducible refine (spec_l24Of.calls k _ _ l0 a1 t194 false _ ?side1 ?side2 A3.out).mono ?_); (case side1 => repeat (first | exact HR0.out | (with_reducible refine jN ?_ _) | (with_reducible refine jM ?_ _) | (with_reducible refine jT ?_))); (case side2 => exact HC0.out); rintro e w7 ⟨v196, rfl, ho0, hb⟩; refine ⟨_, rfl, ?_⟩; have n0_ := jA (jc ho0 (jP (zb0 HB))); have n1_ := jA (jH (zb0 HB) hb); clear HB; have HO197 := n0_; have HB := n1_; clear n0_ n1_; (try clear hb); (try clear hb2); (try clear hk); (try clear hi); (try clear ho0); obtain ⟨Ao8, co8, eo8⟩ := Kd.R_slice HO197.out; subst eo8))
   go_ret
   exact ⟨by first | rfl | (simp [errW_none, errW_some] <;> rfl) | (simp [*, errW_none, errW_some] <;> rfl), zb0 HB⟩
  ·rw [if_neg c6] at H
   have c6b0 : ((t194.length : Int) == 0) = false := beq_eq_false_iff_ne.mpr c6
   have c6b1 : ((t194.length : Int) != 0) = true := bne_iff_ne.mpr c6
   have c6b2 : ¬ (t194 = []) := fun h_ => c6 (by rw [h_]; rfl)
   by_cases c9 : (t194.length : Int) = 3
   ·rw [if_pos c9] at H
    have c9b0 : ((t194.length : Int) == 3) = true := beq_iff_eq.mpr c9
    have c9b1 : ((t194.length : Int) != 3) = false := bne_eq_false_iff_eq.mpr c9
    clear c9
    obtain rfl := je H
    go_enter Try.func58, Try.ntmps58
    go_wp2_with (first | ((with_reducible refine jU (f := 48) rfl ?_); refine goesL_ (some 10) rfl rfl Try.func48 zr rfl #[.slice A0 l0.length c0, .int .i64 a1] rfl zm ?_; (with_reducible refine (spec_l24Of.calls k _ _ l0 a1 t194 false _ ?side1 ?side2 A3.out).mono ?_); (case side1 => repeat (first | exact HR0.out | (with_reducible refine jN ?_ _) | (with_reducible refine jM ?_ _) | (with_reducible refine jT ?_))); (case side2 => exact HC0.out); rintro e w10 ⟨v196, rfl, ho0, hb⟩; refine ⟨_, rfl, ?_⟩; have n0_ := jA (jc ho0 (jP (zb0 HB))); have n1_ := jA (jH (zb0 HB) hb); clear HB; have HO197 := n0_; have HB := n1_; clear n0_ n1_; (try clear hb); (try clear hb2); (try clear hk); (try clear hi); (try clear ho0); obtain ⟨Ao11, co11, eo11⟩ := Kd.R_slice HO197.out; subst eo11))
    go_ret
    exact ⟨by first | rfl | (simp [errW_none, errW_some] <;> rfl) | (simp [*, errW_none, errW_some] <;> rfl), zb0 HB⟩
   ·rw [if_neg c9] at H
    have c9b0 : ((t194.length : Int) == 3) = false := beq_eq_false_iff_ne.mpr c9
    have c9b1 : ((t194.length : Int) != 3) = true := bne_iff_ne.mpr c9
    obtain rfl := je H
    go_enter Try.func58, Try.ntmps58
    go_wp2_with (first | ((with_reducible refine jU (f := 48) rfl ?_); refine goesL_ (some 10) rfl rfl Try.func48 zr rfl #[.slice A0 l0.length c0, .int .i64 a1] rfl zm ?_; (with_reducible refine (spec_l24Of.calls k _ _ l0 a1 t194 false _ ?side1 ?side2 A3.out).mono ?_); (case side1 => repeat (first | exact HR0.out | (with_reducible refine jN ?_ _) | (with_reducible refine jM ?_ _) | (with_reducible refine jT ?_))); (case side2 => exact HC0.out); rintro e w12 ⟨v196, rfl, ho0, hb⟩; refine ⟨_, rfl, ?_⟩; have n0_ := jA (jc ho0 (jP (zb0 HB))); have n1_ := jA (jH (zb0 HB) hb); clear HB; have HO197 := n0_; have HB := n1_; clear n0_ n1_; (try clear hb); (try clear hb2); (try clear hk); (try clear hi); (try clear ho0); obtain ⟨Ao13, co13, eo13⟩ := Kd.R_slice HO197.out; subst eo13))
    go_ret
    exact ⟨by first | rfl | (simp [errW_none, errW_some] <;> rfl) | (simp [*, errW_none, errW_some] <;> rfl), zb0 HB⟩

/-! ### spec_NextTry: function 28 -/
def spec_NextTry.j0 : Nat → List (S36) → Int → Int → Option (Int × Int)
 | 0, _, _, _ => none
 | k + 1, x0, x1, x7 => (spec_l24Of.f k x0 x1).bind fun bt201 => (if (bt201.1.length : Int) > 0 then (if 0 ≤ (wrap64 ((bt201.1.length : Int) - 1)) then (if (wrap64 ((bt201.1.length : Int) - 1)) < (bt201.1.length : Int) then (if (mx x7 (wrap64 ((rd bt201.1 (wrap64 ((bt201.1.length : Int) - 1))) + 50))) > 100000 then (some (0, 4)) else (some (mx x7 (wrap64 ((rd bt201.1 (wrap64 ((bt201.1.length : Int) - 1))) + 50)), 0))) else (none)) else (none)) else (if x7 > 100000 then (some (0, 4)) else (some (x7, 0))))
def spec_NextTry.f (k : Nat) (l0 : List (S36)) (a1 : Int) : Option (Int × Int) := (spec_l24Code.f k l0 a1).bind fun t198 => (if t198 = 0 then ((spec_l24State.f k l0 a1).bind fun t199 => (if t199 ≥ 2 then (some (0, 5)) else (if (l0.length : Int) > 0 then (if 0 ≤ (wrap64 ((l0.length : Int) - 1)) then (if (wrap64 ((l0.length : Int) - 1)) < (l0.length : Int) then (spec_NextTry.j0 k l0 a1 ((rd_T36 l0 (wrap64 ((l0.length : Int) - 1))).f1)) else (none)) else (none)) else (spec_NextTry.j0 k l0 a1 0)))) else (some (0, t198)))
theorem spec_NextTry.mono_l : ∀ k, (∀ y0 y1 y2, LeO (spec_NextTry.j0 k y0 y1 y2) (spec_NextTry.j0 (k + 1) y0 y1 y2))
 | 0 => fun _ _ _ r h => by simp [spec_NextTry.j0] at h
 | k + 1 => by
  have ih0 := spec_NextTry.mono_l k
  ·intro y0 y1 y2
   unfold spec_NextTry.j0
   repeat' first
   | (with_reducible exact ih0 _ _ _)
   | (with_reducible exact spec_l24Code.mono _ _ _)
   | (with_reducible exact spec_l24Of.mono _ _ _)
   | (with_reducible exact spec_l24State.mono _ _ _)
   | (with_reducible exact LeO.refl _)
   | (with_reducible exact LeO.none _)
   | (with_reducible refine LeO.ite ?_ ?_)
   | (with_reducible refine LeO.bind ?_ (fun _ => ?_))
   | exact ih0 _ _ _
   | exact spec_l24Code.mono _ _ _
   | exact spec_l24Of.mono _ _ _
   | exact spec_l24State.mono _ _ _
   | exact LeO.none _
   | refine LeO.ite ?_ ?_
   | refine LeO.bind ?_ (fun _ => ?_)
theorem spec_NextTry.mono : ∀ a0 a1 k, LeO (spec_NextTry.f k a0 a1) (spec_NextTry.f (k + 1) a0 a1) := by
 intro a0 a1 k
 have ih0 := spec_NextTry.mono_l k
 unfold spec_NextTry.f
 repeat' first
   | (with_reducible exact ih0 _ _ _)
   | (with_reducible exact spec_l24Code.mono _ _ _)
   | (with_reducible exact spec_l24Of.mono _ _ _)
   | (with_reducible exact spec_l24State.mono _ _ _)
   | (with_reducible exact LeO.refl _)
   | (with_reducible exact LeO.none _)
   | (with_reducible refine LeO.ite ?_ ?_)
   | (with_reducible refine LeO.bind ?_ (fun _ => ?_))
   | exact ih0 _ _ _
   | exact spec_l24Code.mono _ _ _
   | exact spec_l24Of.mono _ _ _
   | exact spec_l24State.mono _ _ _
   | exact LeO.none _
   | refine LeO.ite ?_ ?_
   | refine LeO.bind ?_ (fun _ => ?_)
set_option maxHeartbeats 8000000 in
set_option maxRecDepth 100000 in
theorem spec_NextTry.calls (k : Nat) (A0 : Option Addr) (c0 : Nat) (l0 : List (S36)) (a1 : Int) (r1 : Int) (r2 : Int) (w : World) (hr0 : Kd.C k36 w A0 l0.length l0) (hc0 : l0.length ≤ c0) (h : spec_NextTry.f k l0 a1 = some (r1, r2)) :
  Calls Try.prog 28 #[.slice A0 l0.length c0, .int .i64 a1] w fun e w' => e = .returned (.tuple #[.int .i64 r1, .int .i64 r2]) ∧ Below w.heap.size w w' := by
 have HR0 := jA hr0
 have HC0 := jA hc0
 clear hr0 hc0
 have HB := jA (Below.refl w.heap.size w)
 have H : ((spec_l24Code.f k l0 a1).bind fun t198 => (if t198 = 0 then ((spec_l24State.f k l0 a1).bind fun t199 => (if t199 ≥ 2 then (some (0, 5)) else (if (l0.length : Int) > 0 then (if 0 ≤ (wrap64 ((l0.length : Int) - 1)) then (if (wrap64 ((l0.length : Int) - 1)) < (l0.length : Int) then (spec_NextTry.j0 k l0 a1 ((rd_T36 l0 (wrap64 ((l0.length : Int) - 1))).f1)) else (none)) else (none)) else (spec_NextTry.j0 k l0 a1 0)))) else (some (0, t198)))) = some (r1, r2) := h
 clear h
 replace H := jG.mp H
 obtain ⟨t198, A30, H⟩ := H
 replace H : (if t198 = 0 then ((spec_l24State.f k l0 a1).bind fun t199 => (if t199 ≥ 2 then (some (0, 5)) else (if (l0.length : Int) > 0 then (if 0 ≤ (wrap64 ((l0.length : Int) - 1)) then (if (wrap64 ((l0.length : Int) - 1)) < (l0.length : Int) then (spec_NextTry.j0 k l0 a1 ((rd_T36 l0 (wrap64 ((l0.length : Int) - 1))).f1)) else (none)) else (none)) else (spec_NextTry.j0 k l0 a1 0)))) else (some (0, t198))) = some (r1, r2) := H
 have A3 := jA A30
 clear A30
 by_cases c4 : t198 = 0
 ·rw [if_pos c4] at H
  have c4b0 : (t198 == 0) = true := beq_iff_eq.mpr c4
  have c4b1 : (t198 != 0) = false := bne_eq_false_iff_eq.mpr c4
  clear c4
  replace H := jG.mp H
  obtain ⟨t199, A50, H⟩ := H
  replace H : (if t199 ≥ 2 then (some (0, 5)) else (if (l0.length : Int) > 0 then (if 0 ≤ (wrap64 ((l0.length : Int) - 1)) then (if (wrap64 ((l0.length : Int) - 1)) < (l0.length : Int) then (spec_NextTry.j0 k l0 a1 ((rd_T36 l0 (wrap64 ((l0.length : Int) - 1))).f1)) else (none)) else (none)) else (spec_NextTry.j0 k l0 a1 0))) = some (r1, r2) := H
  have A5 := jA A50
  clear A50
  by_cases c6 : t199 ≥ 2
  ·rw [if_pos c6] at H
   have c6b0 : decide (2 ≤ t199) = true := jZ c6
   clear c6
   simp only [jf, jh] at H
   obtain ⟨rfl, rfl⟩ := H
   go_enter Try.func28, Try.ntmps28
   go_wp2_with (first | ((with_reducible refine jU (f := 55) rfl ?_); refine goesL_ (some 12) rfl rfl Try.func55 zr rfl #[.slice A0 l0.length c0, .int .i64 a1] rfl zm ?_; (with_reducible refine (spec_l24Code.calls k _ _ l0 a1 t198 _ ?side1 ?side2 A3.out).mono ?_); (case side1 => repeat (first | exact HR0.out | (with_reducible refine jN ?_ _) | (with_reducible refine jM ?_ _) | (with_reducible refine jT ?_))); (case side2 => exact HC0.out); rintro e w7 ⟨rfl, hb⟩; refine ⟨_, rfl, ?_⟩; have n0_ := jA (jH (zb0 HB) hb); clear HB; have HB := n0_; clear n0_; (try clear hb); (try clear hb2); (try clear hk); (try clear hi)) | ((with_reducible refine jU (f := 58) rfl ?_); refine goesL_ (some 18) rfl rfl Try.func58 zr rfl #[.slice A0 l0.length c0, .int .i64 a1] rfl zm ?_; (with_reducible refine (spec_l24State.calls k _ _ l0 a1 t199 _ ?side1 ?side2 A5.out).mono ?_); (case side1 => exact zs HR0 HB); (case side2 => exact HC0.out); rintro e w8 ⟨rfl, hb⟩; refine ⟨_, rfl, ?_⟩; have n0_ := jA (jH (zb0 HB) hb); clear HB; have HB := n0_; clear n0_; (try clear hb); (try clear hb2); (try clear hk); (try clear hi)))
   go_ret2
   exact ⟨by first | rfl | (simp [errW_none, errW_some] <;> rfl) | (simp [*, errW_none, errW_some] <;> rfl), zb0 HB⟩
  ·rw [if_neg c6] at H
   have c6b0 : decide (2 ≤ t199) = false := jg c6
   clear c6
   have HC9 := jA H
   clear H
   go_enter Try.func28, Try.ntmps28
   go_upto_if 22 with (first | ((with_reducible refine jU (f := 55) rfl ?_); refine goesL_ (some 12) rfl rfl Try.func55 zr rfl #[.slice A0 l0.length c0, .int .i64 a1] rfl zm ?_; (with_reducible refine (spec_l24Code.calls k _ _ l0 a1 t198 _ ?side1 ?side2 A3.out).mono ?_); (case side1 => repeat (first | exact HR0.out | (with_reducible refine jN ?_ _) | (with_reducible refine jM ?_ _) | (with_reducible refine jT ?_))); (case side2 => exact HC0.out); rintro e w10 ⟨rfl, hb⟩; refine ⟨_, rfl, ?_⟩; have n0_ := jA (jH (zb0 HB) hb); clear HB; have HB := n0_; clear n0_; (try clear hb); (try clear hb2); (try clear hk); (try clear hi)) | ((with_reducible refine jU (f := 58) rfl ?_); refine goesL_ (some 18) rfl rfl Try.func58 zr rfl #[.slice A0 l0.length c0, .int .i64 a1] rfl zm ?_; (with_reducible refine (spec_l24State.calls k _ _ l0 a1 t199 _ ?side1 ?side2 A5.out).mono ?_); (case side1 => exact zs HR0 HB); (case side2 => exact HC0.out); rintro e w11 ⟨rfl, hb⟩; refine ⟨_, rfl, ?_⟩; have n0_ := jA (jH (zb0 HB) hb); clear HB; have HB := n0_; clear n0_; (try clear hb); (try clear hb2); (try clear hk); (try clear hi)))
   (try simp only [Act.put, jB, jE, jF])
   go_cut [7] (fun v7 wc => ∃ (kq : Nat) (x7_8 : Int), v7 = .int .i64 x7_8 ∧ Aside0 (spec_NextTry.j0 kq l0 a1 x7_8 = some (r1, r2)) ∧ Aside0 (kq ≤ k) ∧ Aside0 (Below w.heap.size w wc))
   case first =>
    have H := HC9.out
    clear HC9
    by_cases c12 : (l0.length : Int) > 0
    ·rw [if_pos c12] at H
     have c12b0 : decide (0 < (l0.length : Int)) = true := jZ c12
     have c12b1 : decide (0 < l0.length) = true := jZ (by omega)
     clear c12
     (first | rw [c12b0] | (simp only [i64_w, i32_w]; rw [c12b0]) | rw [c12b1] | skip)
     obtain ⟨ji13, hji13⟩ : ∃ j_ : Int, (wrap64 ((l0.length : Int) - 1)) = j_ := ⟨_, rfl⟩
     replace H : (if 0 ≤ (ji13) then (if (ji13) < (l0.length : Int) then (spec_NextTry.j0 k l0 a1 ((rd_T36 l0 (ji13)).f1)) else (none)) else (none)) = some (r1, r2) := by first | (rw [hji13] at H; exact H) | (simp only [hji13] at H ⊢; exact H)
     have hji13w : (IntKind.i64.wrap ((l0.length : Int) - 1)) = ji13 := (i64_w _).trans hji13
     by_cases c14 : 0 ≤ (ji13)
     ·rw [if_pos c14] at H
      have c14b0 : decide (0 ≤ (ji13)) = true := jZ c14
      clear c14
      by_cases c15 : (ji13) < (l0.length : Int)
      ·rw [if_pos c15] at H
       have c15b0 : decide ((ji13) < (l0.length : Int)) = true := jZ c15
       clear c15
       have H' := jA H
       clear H
       have p200 : 0 ≤ ((ji13) : Int) := jI za
       have q200 : (ji13) < (l0.length : Int) := jI za
       obtain ⟨ad200, e200, hx200_0, hx200_1, hx200_2⟩ := at_T36 HR0.out (ji13) p200 q200
       cases e200
       replace hx200_0 := (HB.out.cell (ja w _ hx200_0)).trans hx200_0
       replace hx200_1 := (HB.out.cell (ja w _ hx200_1)).trans hx200_1
       replace hx200_2 := (HB.out.cell (ja w _ hx200_2)).trans hx200_2
       replace p200 := eq_true p200
       replace q200 := eq_true q200
       go_wp2
       go_meet
       case rel => exact ⟨_, ((rd_T36 l0 (ji13)).f1), (by first | rfl | (simp; done) | (simp only [← hji13] <;> (first | rfl | simp)) | (simp [*]; done)), H', ⟨by first | omega | exact Nat.le_refl _⟩, ⟨zb0 HB⟩⟩
      ·rw [if_neg c15] at H
       exact absurd H (by simp)
     ·rw [if_neg c14] at H
      exact absurd H (by simp)
    ·rw [if_neg c12] at H
     have c12b0 : decide (0 < (l0.length : Int)) = false := jg c12
     have c12b1 : decide (0 < l0.length) = false := jg (by omega)
     clear c12
     (first | rw [c12b0] | (simp only [i64_w, i32_w]; rw [c12b0]) | rw [c12b1] | skip)
     have H' := jA H
     clear H
     go_wp2
     go_meet
     case rel => exact ⟨_, (0), zz, H', ⟨by first | omega | exact Nat.le_refl _⟩, ⟨zb0 HB⟩⟩
   case rest =>
    clear HC9
    try clear c1
    try clear c2
    try clear p2
    try clear q2
    try clear hx2
    try clear c4
    try clear c4b0
    try clear c4b1
    try clear c5
    try clear c6
    try clear c6b0
    try clear p6
    try clear c12
    try clear c12b0
    try clear c12b1
    try clear c14
    try clear c14b0
    try clear c15
    try clear c15b0
    try clear hx200_0
    try clear hx200_1
    try clear hx200_2
    try clear p200
    try clear q200
    obtain ⟨kq, x7_8, rfl, HA, HJ8, HB⟩ := hcut
    cases kq with
    | zero => exact absurd HA.out (by simp [spec_NextTry.j0])
    | succ kj8 =>
     have H := HA.out
     clear HA
     simp only [spec_NextTry.j0] at H
     replace H := jG.mp H
     obtain ⟨⟨t201, t202⟩, A160, H⟩ := H
     replace H : (if (t201.length : Int) > 0 then (if 0 ≤ (wrap64 ((t201.length : Int) - 1)) then (if (wrap64 ((t201.length : Int) - 1)) < (t201.length : Int) then (if (mx x7_8 (wrap64 ((rd t201 (wrap64 ((t201.length : Int) - 1))) + 50))) > 100000 then (some (0, 4)) else (some (mx x7_8 (wrap64 ((rd t201 (wrap64 ((t201.length : Int) - 1))) + 50)), 0))) else (none)) else (none)) else (if x7_8 > 100000 then (some (0, 4)) else (some (x7_8, 0)))) = some (r1, r2) := H
     have A16 := jA A160
     clear A160
     by_cases c17 : (t201.length : Int) > 0
     ·rw [if_pos c17] at H
      have c17b0 : decide (0 < (t201.length : Int)) = true := jZ c17
      have c17b1 : decide (0 < t201.length) = true := jZ (by omega)
      clear c17
      obtain ⟨ji18, hji18⟩ : ∃ j_ : Int, (wrap64 ((t201.length : Int) - 1)) = j_ := ⟨_, rfl⟩
      replace H : (if 0 ≤ (ji18) then (if (ji18) < (t201.length : Int) then (if (mx x7_8 (wrap64 ((rd t201 (ji18)) + 50))) > 100000 then (some (0, 4)) else (some (mx x7_8 (wrap64 ((rd t201 (ji18)) + 50)), 0))) else (none)) else (none)) = some (r1, r2) := by first | (rw [hji18] at H; exact H) | (simp only [hji18] at H ⊢; exact H)
      (try rw [hji18] at A16)
      have hji18w : (IntKind.i64.wrap ((t201.length : Int) - 1)) = ji18 := (i64_w _).trans hji18
      by_cases c19 : 0 ≤ (ji18)
      ·rw [if_pos c19] at H
       have c19b0 : decide (0 ≤ (ji18)) = true := jZ c19
       clear c19
       by_cases c20 : (ji18) < (t201.length : Int)
       ·rw [if_pos c20] at H
        have c20b0 : decide ((ji18) < (t201.length : Int)) = true := jZ c20
        clear c20
        obtain ⟨ji21, hji21⟩ : ∃ j_ : Int, (mx x7_8 (wrap64 ((rd t201 (ji18)) + 50))) = j_ := ⟨_, rfl⟩
        replace H : (if (ji21) > 100000 then (some (0, 4)) else (some (ji21, 0))) = some (r1, r2) := by first | (rw [hji21] at H; exact H) | (simp only [hji21] at H ⊢; exact H)
        (try rw [hji21] at A16)
        have hji21_ : (if x7_8 < (wrap64 ((rd t201 (ji18)) + 50)) then (wrap64 ((rd t201 (ji18)) + 50)) else x7_8) = ji21 := hji21
        by_cases c22 : (ji21) > 100000
        ·rw [if_pos c22] at H
         have c22b0 : decide (100000 < (ji21)) = true := jZ c22
         clear c22
         simp only [jf, jh] at H
         obtain ⟨rfl, rfl⟩ := H
         go_wp2_with (first | ((with_reducible refine jU (f := 48) rfl ?_); refine goesL_ (some 33) rfl rfl Try.func48 zr rfl #[.slice A0 l0.length c0, .int .i64 a1] rfl zm ?_; (with_reducible refine (spec_l24Of.calls kj8 _ _ l0 a1 t201 t202 _ ?side1 ?side2 A16.out).mono ?_); (case side1 => exact zs HR0 HB); (case side2 => exact HC0.out); rintro e w23 ⟨v203, rfl, ho0, hb⟩; refine ⟨_, rfl, ?_⟩; have n0_ := jA (jc ho0 (jP (zb0 HB))); have n1_ := jA (jH (zb0 HB) hb); clear HB; have HO204 := n0_; have HB := n1_; clear n0_ n1_; (try clear hb); (try clear hb2); (try clear hk); (try clear hi); (try clear ho0); obtain ⟨Ao24, co24, eo24⟩ := Kd.R_slice HO204.out; subst eo24; have p205 : 0 ≤ ((ji18) : Int) := jI za; have q205 : (ji18) < (t201.length : Int) := jI za; obtain ⟨ad205, e205, hx205_0⟩ := Kd.at_int (jD HO204.out).2.2 (ji18) p205 q205; cases e205; replace p205 := eq_true p205; replace q205 := eq_true q205))
         go_ret2
         exact ⟨by first | rfl | (simp [errW_none, errW_some] <;> rfl) | (simp only [← hji18, ← hji21]; first | rfl | (simp [errW_none, errW_some] <;> rfl)) | (simp [*, errW_none, errW_some] <;> rfl), zb0 HB⟩
        ·rw [if_neg c22] at H
         have c22b0 : decide (100000 < (ji21)) = false := jg c22
         clear c22
         simp only [jf, jh] at H
         obtain ⟨rfl, rfl⟩ := H
         go_wp2_with (first | ((with_reducible refine jU (f := 48) rfl ?_); refine goesL_ (some 33) rfl rfl Try.func48 zr rfl #[.slice A0 l0.length c0, .int .i64 a1] rfl zm ?_; (with_reducible refine (spec_l24Of.calls kj8 _ _ l0 a1 t201 t202 _ ?side1 ?side2 A16.out).mono ?_); (case side1 => exact zs HR0 HB); (case side2 => exact HC0.out); rintro e w25 ⟨v203, rfl, ho0, hb⟩; refine ⟨_, rfl, ?_⟩; have n0_ := jA (jc ho0 (jP (zb0 HB))); have n1_ := jA (jH (zb0 HB) hb); clear HB; have HO204 := n0_; have HB := n1_; clear n0_ n1_; (try clear hb); (try clear hb2); (try clear hk); (try clear hi); (try clear ho0); obtain ⟨Ao26, co26, eo26⟩ := Kd.R_slice HO204.out; subst eo26; have p205 : 0 ≤ ((ji18) : Int) := jI za; have q205 : (ji18) < (t201.length : Int) := jI za; obtain ⟨ad205, e205, hx205_0⟩ := Kd.at_int (jD HO204.out).2.2 (ji18) p205 q205; cases e205; replace p205 := eq_true p205; replace q205 := eq_true q205))
         go_ret2
         exact ⟨by first | rfl | (simp [errW_none, errW_some] <;> rfl) | (simp only [← hji18, ← hji21]; first | rfl | (simp [errW_none, errW_some] <;> rfl)) | (simp [*, errW_none, errW_some] <;> rfl), zb0 HB⟩
       ·rw [if_neg c20] at H
        exact absurd H (by simp)
      ·rw [if_neg c19] at H
       exact absurd H (by simp)
     ·rw [if_neg c17] at H
      have c17b0 : decide (0 < (t201.length : Int)) = false := jg c17
      have c17b1 : decide (0 < t201.length) = false := jg (by omega)
      clear c17
      by_cases c27 : x7_8 > 100000
      ·rw [if_pos c27] at H
       have c27b0 : decide (100000 < x7_8) = true := jZ c27
       clear c27
       simp only [jf, jh] at H
       obtain ⟨rfl, rfl⟩ := H
       go_wp2_with (first | ((with_reducible refine jU (f := 48) rfl ?_); refine goesL_ (some 33) rfl rfl Try.func48 zr rfl #[.slice A0 l0.length c0, .int .i64 a1] rfl zm ?_; (with_reducible refine (spec_l24Of.calls kj8 _ _ l0 a1 t201 t202 _ ?side1 ?side2 A16.out).mono ?_); (case side1 => exact zs HR0 HB); (case side2 => exact HC0.out); rintro e w28 ⟨v203, rfl, ho0, hb⟩; refine ⟨_, rfl, ?_⟩; have n0_ := jA (jc ho0 (jP (zb0 HB))); have n1_ := jA (jH (zb0 HB) hb); clear HB; have HO204 := n0_; have HB := n1_; clear n0_ n1_; (try clear hb); (try clear hb2); (try clear hk); (try clear hi); (try clear ho0); obtain ⟨Ao29, co29, eo29⟩ := Kd.R_slice HO204.out; subst eo29))
       go_ret2
       exact ⟨by first | rfl | (simp [errW_none, errW_some] <;> rfl) | (simp [*, errW_none, errW_some] <;> rfl), zb0 HB⟩
      ·rw [if_neg c27] at H
       have c27b0 : decide (100000 < x7_8) = false := jg c27
       clear c27
       simp only [jf, jh] at H
       obtain ⟨rfl, rfl⟩ := H
       go_wp2_with (first | ((with_reducible refine jU (f := 48) rfl ?_); refine goesL_ (some 33) rfl rfl Try.func48 zr rfl #[.slice A0 l0.length c0, .int .i64 a1] rfl zm ?_; (with_reducible refine (spec_l24Of.calls kj8 _ _ l0 a1 t201 t202 _ ?side1 ?side2 A16.out).mono ?_); (case side1 => exact zs HR0 HB); (case side2 => exact HC0.out); rintro e w30 ⟨v203, rfl, ho0, hb⟩; refine ⟨_, rfl, ?_⟩; have n0_ := jA (jc ho0 (jP (zb0 HB))); have n1_ := jA (jH (zb0 HB) hb); clear HB; have HO204 := n0_; have HB := n1_; clear n0_ n1_; (try clear hb); (try clear hb2); (try clear hk); (try clear hi); (try clear ho0); obtain ⟨Ao31, co31, eo31⟩ := Kd.R_slice HO204.out; subst eo31))
       go_ret2
       exact ⟨by first | rfl | (simp [errW_none, errW_some] <;> rfl) | (simp [*, errW_none, errW_some] <;> rfl), zb0 HB⟩
 ·rw [if_neg c4] at H
  have c4b0 : (t198 == 0) = false := beq_eq_false_iff_ne.mpr c4
  have c4b1 : (t198 != 0) = true := bne_iff_ne.mpr c4
  simp only [jf, jh] at H
  obtain ⟨rfl, rfl⟩ := H
  go_enter Try.func28, Try.ntmps28
  go_wp2_with (first | ((with_reducible refine jU (f := 55) rfl ?_); refine goesL_ (some 12) rfl rfl Try.func55 zr rfl #[.slice A0 l0.length c0, .int .i64 a1] rfl zm ?_; (with_reducible refine (spec_l24Code.calls k _ _ l0 a1 t198 _ ?side1 ?side2 A3.out).mono ?_); (case side1 => repeat (first | exact HR0.out | (with_reducible refine jN ?_ _) | (with_reducible refine jM ?_ _) | (with_reducible refine jT ?_))); (case side2 => exact HC0.out); rintro e w32 ⟨rfl, hb⟩; refine ⟨_, rfl, ?_⟩; have n0_ := jA (jH (zb0 HB) hb); clear HB; have HB := n0_; clear n0_; (try clear hb); (try clear hb2); (try clear hk); (try clear hi)))
  go_ret2
  exact ⟨by first | rfl | (simp [errW_none, errW_some] <;> rfl) | (simp [*, errW_none, errW_some] <;> rfl), zb0 HB⟩

/-! ### impl_NextTry: function 29 -/
def impl_NextTry.j0 : Nat → List (S36) → Int → Bool → Option (Int × Int)
 | 0, _, _, _ => none
 | k + 1, x0, x1, x23 => if x23 = true then (some (0, 5)) else ((impl_nextTick.f k x0 x1).bind fun t208 => ((impl_isTick.f t208).bind fun t209 => (if t209 = true then (some (t208, 0)) else (some (0, 4)))))
def impl_NextTry.f (k : Nat) (l0 : List (S36)) (a1 : Int) : Option (Int × Int) := (impl_cueAsked.f k l0 a1).bind fun t206 => (if t206 = 0 then ((impl_cueState.f k l0 a1).bind fun t207 => (if t207 = 2 then (impl_NextTry.j0 k l0 a1 true) else (impl_NextTry.j0 k l0 a1 (t207 == 3)))) else (some (0, t206)))
theorem impl_NextTry.mono_l : ∀ k, (∀ y0 y1 y2, LeO (impl_NextTry.j0 k y0 y1 y2) (impl_NextTry.j0 (k + 1) y0 y1 y2))
 | 0 => fun _ _ _ r h => by simp [impl_NextTry.j0] at h
 | k + 1 => by
  have ih0 := impl_NextTry.mono_l k
  ·intro y0 y1 y2
   unfold impl_NextTry.j0
   repeat' first
   | (with_reducible exact ih0 _ _ _)
   | (with_reducible exact impl_cueAsked.mono _ _ _)
   | (with_reducible exact impl_cueState.mono _ _ _)
   | (with_reducible exact impl_nextTick.mono _ _ _)
   | (with_reducible exact LeO.refl _)
   | (with_reducible exact LeO.none _)
   | (with_reducible refine LeO.ite ?_ ?_)
   | (with_reducible refine LeO.bind ?_ (fun _ => ?_))
   | exact ih0 _ _ _
   | exact impl_cueAsked.mono _ _ _
   | exact impl_cueState.mono _ _ _
   | exact impl_nextTick.mono _ _ _
   | exact LeO.none _
   | refine LeO.ite ?_ ?_
   | refine LeO.bind ?_ (fun _ => ?_)
theorem impl_NextTry.mono : ∀ a0 a1 k, LeO (impl_NextTry.f k a0 a1) (impl_NextTry.f (k + 1) a0 a1) := by
 intro a0 a1 k
 have ih0 := impl_NextTry.mono_l k
 unfold impl_NextTry.f
 repeat' first
   | (with_reducible exact ih0 _ _ _)
   | (with_reducible exact impl_cueAsked.mono _ _ _)
   | (with_reducible exact impl_cueState.mono _ _ _)
   | (with_reducible exact impl_nextTick.mono _ _ _)
   | (with_reducible exact LeO.refl _)
   | (with_reducible exact LeO.none _)
   | (with_reducible refine LeO.ite ?_ ?_)
   | (with_reducible refine LeO.bind ?_ (fun _ => ?_))
   | exact ih0 _ _ _
   | exact impl_cueAsked.mono _ _ _
   | exact impl_cueState.mono _ _ _
   | exact impl_nextTick.mono _ _ _
   | exact LeO.none _
   | refine LeO.ite ?_ ?_
   | refine LeO.bind ?_ (fun _ => ?_)
set_option maxHeartbeats 8000000 in
set_option maxRecDepth 100000 in
theorem impl_NextTry.calls (k : Nat) (A0 : Option Addr) (c0 : Nat) (l0 : List (S36)) (a1 : Int) (r1 : Int) (r2 : Int) (w : World) (hr0 : Kd.C k36 w A0 l0.length l0) (hc0 : l0.length ≤ c0) (h : impl_NextTry.f k l0 a1 = some (r1, r2)) :
  Calls Try.prog 29 #[.slice A0 l0.length c0, .int .i64 a1] w fun e w' => e = .returned (.tuple #[.int .i64 r1, .int .i64 r2]) ∧ Below w.heap.size w w' := by
 have HR0 := jA hr0
 have HC0 := jA hc0
 clear hr0 hc0
 have HB := jA (Below.refl w.heap.size w)
 have H : ((impl_cueAsked.f k l0 a1).bind fun t206 => (if t206 = 0 then ((impl_cueState.f k l0 a1).bind fun t207 => (if t207 = 2 then (impl_NextTry.j0 k l0 a1 true) else (impl_NextTry.j0 k l0 a1 (t207 == 3)))) else (some (0, t206)))) = some (r1, r2) := h
 clear h
 replace H := jG.mp H
 obtain ⟨t206, A30, H⟩ := H
 replace H : (if t206 = 0 then ((impl_cueState.f k l0 a1).bind fun t207 => (if t207 = 2 then (impl_NextTry.j0 k l0 a1 true) else (impl_NextTry.j0 k l0 a1 (t207 == 3)))) else (some (0, t206))) = some (r1, r2) := H
 have A3 := jA A30
 clear A30
 by_cases c4 : t206 = 0
 ·rw [if_pos c4] at H
  have c4b0 : (t206 == 0) = true := beq_iff_eq.mpr c4
  have c4b1 : (t206 != 0) = false := bne_eq_false_iff_eq.mpr c4
  clear c4
  replace H := jG.mp H
  obtain ⟨t207, A50, H⟩ := H
  replace H : (if t207 = 2 then (impl_NextTry.j0 k l0 a1 true) else (impl_NextTry.j0 k l0 a1 (t207 == 3))) = some (r1, r2) := H
  have A5 := jA A50
  clear A50
  have HC6 := jA H
  clear H
  go_enter Try.func29, Try.ntmps29
  go_upto_region 5 with (first | ((with_reducible refine jU (f := 56) rfl ?_); refine goesL_ (some 11) rfl rfl Try.func56 zr rfl #[.slice A0 l0.length c0, .int .i64 a1] rfl zm ?_; (with_reducible refine (impl_cueAsked.calls k _ _ l0 a1 t206 _ ?side1 ?side2 A3.out).mono ?_); (case side1 => repeat (first | exact HR0.out | (with_reducible refine jN ?_ _) | (with_reducible refine jM ?_ _) | (with_reducible refine jT ?_))); (case side2 => exact HC0.out); rintro e w7 ⟨rfl, hb⟩; refine ⟨_, rfl, ?_⟩; have n0_ := jA (jH (zb0 HB) hb); clear HB; have HB := n0_; clear n0_; (try clear hb); (try clear hb2); (try clear hk); (try clear hi)) | ((with_reducible refine jU (f := 53) rfl ?_); refine goesL_ (some 17) rfl rfl Try.func53 zr rfl #[.slice A0 l0.length c0, .int .i64 a1] rfl zm ?_; (with_reducible refine (impl_cueState.calls k _ _ l0 a1 t207 _ ?side1 ?side2 A5.out).mono ?_); (case side1 => exact zs HR0 HB); (case side2 => exact HC0.out); rintro e w8 ⟨rfl, hb⟩; refine ⟨_, rfl, ?_⟩; have n0_ := jA (jH (zb0 HB) hb); clear HB; have HB := n0_; clear n0_; (try clear hb); (try clear hb2); (try clear hk); (try clear hi)))
  (try simp only [Act.put, jB, jE, jF])
  go_cut [23] (fun v23 wc => ∃ (kq : Nat) (x23_5 : Bool), v23 = .bool x23_5 ∧ Aside0 (impl_NextTry.j0 kq l0 a1 x23_5 = some (r1, r2)) ∧ Aside0 (kq ≤ k) ∧ Aside0 (Below w.heap.size w wc))
  case first =>
   have H := HC6.out
   clear HC6
   by_cases c9 : t207 = 2
   ·rw [if_pos c9] at H
    have c9b0 : (t207 == 2) = true := beq_iff_eq.mpr c9
    have c9b1 : (t207 != 2) = false := bne_eq_false_iff_eq.mpr c9
    clear c9
    (first | rw [c9b0] | (simp only [i64_w, i32_w]; rw [c9b0]) | skip)
    have H' := jA H
    clear H
    go_wp2
    go_meet
    case rel => exact ⟨_, (true), zz, H', ⟨by first | omega | exact Nat.le_refl _⟩, ⟨zb0 HB⟩⟩
   ·rw [if_neg c9] at H
    have c9b0 : (t207 == 2) = false := beq_eq_false_iff_ne.mpr c9
    have c9b1 : (t207 != 2) = true := bne_iff_ne.mpr c9
    (first | rw [c9b0] | (simp only [i64_w, i32_w]; rw [c9b0]) | skip)
    have H' := jA H
    clear H
    go_wp2
    go_meet
    case rel => exact ⟨_, ((t207 == 3)), zz, H', ⟨by first | omega | exact Nat.le_refl _⟩, ⟨zb0 HB⟩⟩
  case rest =>
   clear HC6
   try clear c2
   try clear p2
   try clear c4
   try clear c4b0
   try clear c4b1
   try clear c5
   try clear c9
   try clear c9b0
   try clear c9b1
   obtain ⟨kq, x23_5, rfl, HA, HJ5, HB⟩ := hcut
   cases kq with
   | zero => exact absurd HA.out (by simp [impl_NextTry.j0])
   | succ kj5 =>
    have H := HA.out
    clear HA
    simp only [impl_NextTry.j0] at H
    by_cases c10 : x23_5 = true
    ·subst c10
     have H1 : (some (0, 5)) = some (r1, r2) := by rw [if_pos rfl] at H; exact H
     clear H
     have H := H1
     clear H1
     simp only [jf, jh] at H
     obtain ⟨rfl, rfl⟩ := H
     go_wp2
     go_ret2
     exact ⟨by first | rfl | (simp [errW_none, errW_some] <;> rfl) | (simp [*, errW_none, errW_some] <;> rfl), zb0 HB⟩
    ·replace c10 := Bool.eq_false_iff.mpr c10
     subst c10
     have H1 : ((impl_nextTick.f kj5 l0 a1).bind fun t208 => ((impl_isTick.f t208).bind fun t209 => (if t209 = true then (some (t208, 0)) else (some (0, 4))))) = some (r1, r2) := by rw [if_neg (show ¬ (false = true) by decide)] at H; exact H
     clear H
     have H := H1
     clear H1
     replace H := jG.mp H
     obtain ⟨t208, A110, H⟩ := H
     replace H : ((impl_isTick.f t208).bind fun t209 => (if t209 = true then (some (t208, 0)) else (some (0, 4)))) = some (r1, r2) := H
     have A11 := jA A110
     clear A110
     replace H := jG.mp H
     obtain ⟨t209, A120, H⟩ := H
     replace H : (if t209 = true then (some (t208, 0)) else (some (0, 4))) = some (r1, r2) := H
     have A12 := jA A120
     clear A120
     by_cases c13 : t209 = true
     ·subst c13
      have H1 : (some (t208, 0)) = some (r1, r2) := by rw [if_pos rfl] at H; exact H
      clear H
      have H := H1
      clear H1
      simp only [jf, jh] at H
      obtain ⟨rfl, rfl⟩ := H
      go_wp2_with (first | ((with_reducible refine jU (f := 54) rfl ?_); refine goesL_ (some 26) rfl rfl Try.func54 zr rfl #[.slice A0 l0.length c0, .int .i64 a1] rfl zm ?_; (with_reducible refine (impl_nextTick.calls kj5 _ _ l0 a1 t208 _ ?side1 ?side2 A11.out).mono ?_); (case side1 => exact zs HR0 HB); (case side2 => exact HC0.out); rintro e w14 ⟨rfl, hb⟩; refine ⟨_, rfl, ?_⟩; have n0_ := jA (jH (zb0 HB) hb); clear HB; have HB := n0_; clear n0_; (try clear hb); (try clear hb2); (try clear hk); (try clear hi)) | ((with_reducible refine jU (f := 52) rfl ?_); refine goesL_ (some 28) rfl rfl Try.func52 zr rfl #[.int .i64 t208] rfl zm ?_; (with_reducible refine (impl_isTick.calls t208 true _ A12.out).mono ?_); rintro e w' ⟨rfl, ⟨nd, rfl⟩⟩; refine ⟨_, rfl, ?_⟩))
      go_ret2
      exact ⟨by first | rfl | (simp [errW_none, errW_some] <;> rfl) | (simp [*, errW_none, errW_some] <;> rfl), zb0 HB⟩
     ·replace c13 := Bool.eq_false_iff.mpr c13
      subst c13
      have H1 : (some (0, 4)) = some (r1, r2) := by rw [if_neg (show ¬ (false = true) by decide)] at H; exact H
      clear H
      have H := H1
      clear H1
      simp only [jf, jh] at H
      obtain ⟨rfl, rfl⟩ := H
      go_wp2_with (first | ((with_reducible refine jU (f := 54) rfl ?_); refine goesL_ (some 26) rfl rfl Try.func54 zr rfl #[.slice A0 l0.length c0, .int .i64 a1] rfl zm ?_; (with_reducible refine (impl_nextTick.calls kj5 _ _ l0 a1 t208 _ ?side1 ?side2 A11.out).mono ?_); (case side1 => exact zs HR0 HB); (case side2 => exact HC0.out); rintro e w15 ⟨rfl, hb⟩; refine ⟨_, rfl, ?_⟩; have n0_ := jA (jH (zb0 HB) hb); clear HB; have HB := n0_; clear n0_; (try clear hb); (try clear hb2); (try clear hk); (try clear hi)) | ((with_reducible refine jU (f := 52) rfl ?_); refine goesL_ (some 28) rfl rfl Try.func52 zr rfl #[.int .i64 t208] rfl zm ?_; (with_reducible refine (impl_isTick.calls t208 false _ A12.out).mono ?_); rintro e w' ⟨rfl, ⟨nd, rfl⟩⟩; refine ⟨_, rfl, ?_⟩))
      go_ret2
      exact ⟨by first | rfl | (simp [errW_none, errW_some] <;> rfl) | (simp [*, errW_none, errW_some] <;> rfl), zb0 HB⟩
 ·rw [if_neg c4] at H
  have c4b0 : (t206 == 0) = false := beq_eq_false_iff_ne.mpr c4
  have c4b1 : (t206 != 0) = true := bne_iff_ne.mpr c4
  simp only [jf, jh] at H
  obtain ⟨rfl, rfl⟩ := H
  go_enter Try.func29, Try.ntmps29
  go_wp2_with (first | ((with_reducible refine jU (f := 56) rfl ?_); refine goesL_ (some 11) rfl rfl Try.func56 zr rfl #[.slice A0 l0.length c0, .int .i64 a1] rfl zm ?_; (with_reducible refine (impl_cueAsked.calls k _ _ l0 a1 t206 _ ?side1 ?side2 A3.out).mono ?_); (case side1 => repeat (first | exact HR0.out | (with_reducible refine jN ?_ _) | (with_reducible refine jM ?_ _) | (with_reducible refine jT ?_))); (case side2 => exact HC0.out); rintro e w16 ⟨rfl, hb⟩; refine ⟨_, rfl, ?_⟩; have n0_ := jA (jH (zb0 HB) hb); clear HB; have HB := n0_; clear n0_; (try clear hb); (try clear hb2); (try clear hk); (try clear hi)))
  go_ret2
  exact ⟨by first | rfl | (simp [errW_none, errW_some] <;> rfl) | (simp [*, errW_none, errW_some] <;> rfl), zb0 HB⟩

/-! ### spec_TriesOf: function 30 -/
def spec_TriesOf.f (k : Nat) (l0 : List (S36)) (a1 : Int) : Option (List Int × Int) := (spec_l24Code.f k l0 a1).bind fun t210 => (if t210 = 0 then ((spec_l24Of.f k l0 a1).bind fun bt211 => (some (bt211.1, 0))) else (some (([] : List Int), t210)))
theorem spec_TriesOf.mono : ∀ a0 a1 k, LeO (spec_TriesOf.f k a0 a1) (spec_TriesOf.f (k + 1) a0 a1) := by
 intro a0 a1 k
 unfold spec_TriesOf.f
 repeat' first
   | (with_reducible exact spec_l24Code.mono _ _ _)
   | (with_reducible exact spec_l24Of.mono _ _ _)
   | (with_reducible exact LeO.refl _)
   | (with_reducible exact LeO.none _)
   | (with_reducible refine LeO.ite ?_ ?_)
   | (with_reducible refine LeO.bind ?_ (fun _ => ?_))
   | exact spec_l24Code.mono _ _ _
   | exact spec_l24Of.mono _ _ _
   | exact LeO.none _
   | refine LeO.ite ?_ ?_
   | refine LeO.bind ?_ (fun _ => ?_)
set_option maxHeartbeats 8000000 in
set_option maxRecDepth 100000 in
theorem spec_TriesOf.calls (k : Nat) (A0 : Option Addr) (c0 : Nat) (l0 : List (S36)) (a1 : Int) (r1 : List Int) (r2 : Int) (w : World) (hr0 : Kd.C k36 w A0 l0.length l0) (hc0 : l0.length ≤ c0) (h : spec_TriesOf.f k l0 a1 = some (r1, r2)) :
  Calls Try.prog 30 #[.slice A0 l0.length c0, .int .i64 a1] w fun e w' => ∃ v0_ : Value, e = .returned (.tuple #[v0_, .int .i64 r2]) ∧ Kd.R (Kd.int .i64) 2 w' w.heap.size (fun _ => True) v0_ r1 ∧ Below w.heap.size w w' := by
 have HR0 := jA hr0
 have HC0 := jA hc0
 clear hr0 hc0
 have HB := jA (Below.refl w.heap.size w)
 have H : ((spec_l24Code.f k l0 a1).bind fun t210 => (if t210 = 0 then ((spec_l24Of.f k l0 a1).bind fun bt211 => (some (bt211.1, 0))) else (some (([] : List Int), t210)))) = some (r1, r2) := h
 clear h
 replace H := jG.mp H
 obtain ⟨t210, A30, H⟩ := H
 replace H : (if t210 = 0 then ((spec_l24Of.f k l0 a1).bind fun bt211 => (some (bt211.1, 0))) else (some (([] : List Int), t210))) = some (r1, r2) := H
 have A3 := jA A30
 clear A30
 by_cases c4 : t210 = 0
 ·rw [if_pos c4] at H
  have c4b0 : (t210 == 0) = true := beq_iff_eq.mpr c4
  have c4b1 : (t210 != 0) = false := bne_eq_false_iff_eq.mpr c4
  clear c4
  replace H := jG.mp H
  obtain ⟨⟨t211, t212⟩, A50, H⟩ := H
  replace H : (some (t211, 0)) = some (r1, r2) := H
  have A5 := jA A50
  clear A50
  simp only [jf, jh] at H
  obtain ⟨rfl, rfl⟩ := H
  go_enter Try.func30, Try.ntmps30
  go_wp2_with (first | ((with_reducible refine jU (f := 55) rfl ?_); refine goesL_ (some 11) rfl rfl Try.func55 zr rfl #[.slice A0 l0.length c0, .int .i64 a1] rfl zm ?_; (with_reducible refine (spec_l24Code.calls k _ _ l0 a1 t210 _ ?side1 ?side2 A3.out).mono ?_); (case side1 => repeat (first | exact HR0.out | (with_reducible refine jN ?_ _) | (with_reducible refine jM ?_ _) | (with_reducible refine jT ?_))); (case side2 => exact HC0.out); rintro e w6 ⟨rfl, hb⟩; refine ⟨_, rfl, ?_⟩; have n0_ := jA (jH (zb0 HB) hb); clear HB; have HB := n0_; clear n0_; (try clear hb); (try clear hb2); (try clear hk); (try clear hi)) | ((with_reducible refine jU (f := 48) rfl ?_); refine goesL_ (some 18) rfl rfl Try.func48 zr rfl #[.slice A0 l0.length c0, .int .i64 a1] rfl zm ?_; (with_reducible refine (spec_l24Of.calls k _ _ l0 a1 t211 t212 _ ?side1 ?side2 A5.out).mono ?_); (case side1 => exact zs HR0 HB); (case side2 => exact HC0.out); rintro e w7 ⟨v213, rfl, ho0, hb⟩; refine ⟨_, rfl, ?_⟩; have n0_ := jA (jc ho0 (jP (zb0 HB))); have n1_ := jA (jH (zb0 HB) hb); clear HB; have HO214 := n0_; have HB := n1_; clear n0_ n1_; (try clear hb); (try clear hb2); (try clear hk); (try clear hi); (try clear ho0)))
  go_ret2
  exact ⟨_, by first | rfl | (simp [errW_none, errW_some] <;> rfl) | (simp [*, errW_none, errW_some] <;> rfl), by (with_reducible repeat (first | apply jR | apply jQ | apply jS)); exact HO214.out, zb0 HB⟩
 ·rw [if_neg c4] at H
  have c4b0 : (t210 == 0) = false := beq_eq_false_iff_ne.mpr c4
  have c4b1 : (t210 != 0) = true := bne_iff_ne.mpr c4
  simp only [jf, jh] at H
  obtain ⟨rfl, rfl⟩ := H
  go_enter Try.func30, Try.ntmps30
  go_wp2_with (first | ((with_reducible refine jU (f := 55) rfl ?_); refine goesL_ (some 11) rfl rfl Try.func55 zr rfl #[.slice A0 l0.length c0, .int .i64 a1] rfl zm ?_; (with_reducible refine (spec_l24Code.calls k _ _ l0 a1 t210 _ ?side1 ?side2 A3.out).mono ?_); (case side1 => repeat (first | exact HR0.out | (with_reducible refine jN ?_ _) | (with_reducible refine jM ?_ _) | (with_reducible refine jT ?_))); (case side2 => exact HC0.out); rintro e w8 ⟨rfl, hb⟩; refine ⟨_, rfl, ?_⟩; have n0_ := jA (jH (zb0 HB) hb); clear HB; have HB := n0_; clear n0_; (try clear hb); (try clear hb2); (try clear hk); (try clear hi)))
  go_ret2
  exact ⟨_, by first | rfl | (simp [errW_none, errW_some] <;> rfl) | (simp [*, errW_none, errW_some] <;> rfl), by first | exact Kd.R_nil _ _ _ _ _ | exact Kd.N_nil _ _ _ _ _ | exact Kd.V_nil _ _ _ _ _ | exact Kd.Q_nil _ _ _ _ _ | exact Kd.S_nil _ _ _ _ _, zb0 HB⟩

/-! ### impl_TriesOf: function 31 -/
def impl_TriesOf.l0 : Nat → List Int → List (S36) → Int → Int → Option (List Int × Int)
 | 0, _, _, _, _ => none
 | k + 1, x7, x18, x19, x20 => if x20 < x19 then (if 0 ≤ x20 then (if x20 < (x18.length : Int) then (if x7.length < 17592186044416 then (impl_TriesOf.l0 k (x7 ++ [(rd_T36 x18 x20).f1]) x18 x19 (wrap64 (x20 + 1))) else (none)) else (none)) else (none)) else (some (x7, 0))
def impl_TriesOf.f (k : Nat) (l0 : List (S36)) (a1 : Int) : Option (List Int × Int) := (impl_cueAsked.f k l0 a1).bind fun t215 => (if t215 = 0 then ((impl_triesOf.f k l0 a1).bind fun t216 => (impl_TriesOf.l0 k ([] : List Int) t216 (t216.length : Int) 0)) else (some (([] : List Int), t215)))
theorem impl_TriesOf.mono_l : ∀ k, (∀ y0 y1 y2 y3, LeO (impl_TriesOf.l0 k y0 y1 y2 y3) (impl_TriesOf.l0 (k + 1) y0 y1 y2 y3))
 | 0 => fun _ _ _ _ r h => by simp [impl_TriesOf.l0] at h
 | k + 1 => by
  have ih0 := impl_TriesOf.mono_l k
  ·intro y0 y1 y2 y3
   unfold impl_TriesOf.l0
   repeat' first
   | (with_reducible exact ih0 _ _ _ _)
   | (with_reducible exact impl_cueAsked.mono _ _ _)
   | (with_reducible exact impl_triesOf.mono _ _ _)
   | (with_reducible exact LeO.refl _)
   | (with_reducible exact LeO.none _)
   | (with_reducible refine LeO.ite ?_ ?_)
   | (with_reducible refine LeO.bind ?_ (fun _ => ?_))
   | exact ih0 _ _ _ _
   | exact impl_cueAsked.mono _ _ _
   | exact impl_triesOf.mono _ _ _
   | exact LeO.none _
   | refine LeO.ite ?_ ?_
   | refine LeO.bind ?_ (fun _ => ?_)
theorem impl_TriesOf.mono : ∀ a0 a1 k, LeO (impl_TriesOf.f k a0 a1) (impl_TriesOf.f (k + 1) a0 a1) := by
 intro a0 a1 k
 have ih0 := impl_TriesOf.mono_l k
 unfold impl_TriesOf.f
 repeat' first
   | (with_reducible exact ih0 _ _ _ _)
   | (with_reducible exact impl_cueAsked.mono _ _ _)
   | (with_reducible exact impl_triesOf.mono _ _ _)
   | (with_reducible exact LeO.refl _)
   | (with_reducible exact LeO.none _)
   | (with_reducible refine LeO.ite ?_ ?_)
   | (with_reducible refine LeO.bind ?_ (fun _ => ?_))
   | exact ih0 _ _ _ _
   | exact impl_cueAsked.mono _ _ _
   | exact impl_triesOf.mono _ _ _
   | exact LeO.none _
   | refine LeO.ite ?_ ?_
   | refine LeO.bind ?_ (fun _ => ?_)
set_option maxHeartbeats 8000000 in
set_option maxRecDepth 100000 in
theorem impl_TriesOf.calls (k : Nat) (A0 : Option Addr) (c0 : Nat) (l0 : List (S36)) (a1 : Int) (r1 : List Int) (r2 : Int) (w : World) (hr0 : Kd.C k36 w A0 l0.length l0) (hc0 : l0.length ≤ c0) (h : impl_TriesOf.f k l0 a1 = some (r1, r2)) :
  Calls Try.prog 31 #[.slice A0 l0.length c0, .int .i64 a1] w fun e w' => ∃ v0_ : Value, e = .returned (.tuple #[v0_, .int .i64 r2]) ∧ Kd.R (Kd.int .i64) 2 w' w.heap.size (fun _ => True) v0_ r1 ∧ Below w.heap.size w w' := by
 have hu36 := Try.underlying36
 have HR0 := jA hr0
 have HC0 := jA hc0
 clear hr0 hc0
 have HB := jA (Below.refl w.heap.size w)
 have H : ((impl_cueAsked.f k l0 a1).bind fun t215 => (if t215 = 0 then ((impl_triesOf.f k l0 a1).bind fun t216 => (impl_TriesOf.l0 k ([] : List Int) t216 (t216.length : Int) 0)) else (some (([] : List Int), t215)))) = some (r1, r2) := h
 clear h
 replace H := jG.mp H
 obtain ⟨t215, A30, H⟩ := H
 replace H : (if t215 = 0 then ((impl_triesOf.f k l0 a1).bind fun t216 => (impl_TriesOf.l0 k ([] : List Int) t216 (t216.length : Int) 0)) else (some (([] : List Int), t215))) = some (r1, r2) := H
 have A3 := jA A30
 clear A30
 by_cases c4 : t215 = 0
 ·rw [if_pos c4] at H
  have c4b0 : (t215 == 0) = true := beq_iff_eq.mpr c4
  have c4b1 : (t215 != 0) = false := bne_eq_false_iff_eq.mpr c4
  clear c4
  replace H := jG.mp H
  obtain ⟨t216, A50, H⟩ := H
  replace H : (impl_TriesOf.l0 k ([] : List Int) t216 (t216.length : Int) 0) = some (r1, r2) := H
  have A5 := jA A50
  clear A50
  have H' := jA H
  clear H
  go_enter Try.func31, Try.ntmps31
  go_wp2_with (first | ((with_reducible refine jU (f := 56) rfl ?_); refine goesL_ (some 12) rfl rfl Try.func56 zr rfl #[.slice A0 l0.length c0, .int .i64 a1] rfl zm ?_; (with_reducible refine (impl_cueAsked.calls k _ _ l0 a1 t215 _ ?side1 ?side2 A3.out).mono ?_); (case side1 => repeat (first | exact HR0.out | (with_reducible refine jN ?_ _) | (with_reducible refine jM ?_ _) | (with_reducible refine jT ?_))); (case side2 => exact HC0.out); rintro e w6 ⟨rfl, hb⟩; refine ⟨_, rfl, ?_⟩; have n0_ := jA (jH (zb0 HB) hb); clear HB; have HB := n0_; clear n0_; (try clear hb); (try clear hb2); (try clear hk); (try clear hi)) | ((with_reducible refine jU (f := 57) rfl ?_); refine goesL_ (some 18) rfl rfl Try.func57 zr rfl #[.slice A0 l0.length c0, .int .i64 a1] rfl zm ?_; (with_reducible refine (impl_triesOf.calls k _ _ l0 a1 t216 _ ?side1 ?side2 A5.out).mono ?_); (case side1 => exact zs HR0 HB); (case side2 => exact HC0.out); rintro e w7 ⟨v217, rfl, ho0, hb⟩; refine ⟨_, rfl, ?_⟩; have n0_ := jA (jc ho0 (jP (zb0 HB))); have n1_ := jA (jH (zb0 HB) hb); clear HB; have HO218 := n0_; have HB := n1_; clear n0_ n1_; (try clear hb); (try clear hb2); (try clear hk); (try clear hi); (try clear ho0); obtain ⟨Ao8, co8, eo8⟩ := Kd.R_slice HO218.out; subst eo8))
  go_loopg [7, 20] k (fun kq v7 v20 w' => ∃ (x7_1 : List Int) (x20_1 : Int), v20 = .int .i64 x20_1 ∧ Aside0 (impl_TriesOf.l0 kq x7_1 t216 (t216.length : Int) x20_1 = some (r1, r2)) ∧ Aside0 (kq ≤ k) ∧ Aside0 (Kd.R (Kd.int .i64) 2 w' w.heap.size (fun _ => True) v7 x7_1) ∧ Aside0 (Kd.R k36 36 w' w.heap.size (fun _ => True) (.slice Ao8 t216.length co8) t216) ∧ Aside0 (Below w.heap.size w w'))
  case atStart => exact ⟨(([] : List Int)), (0), zz, H', ⟨Nat.le_refl _⟩, ⟨by first | exact Kd.R_nil _ _ _ _ _ | exact Kd.N_nil _ _ _ _ _ | exact Kd.V_nil _ _ _ _ _ | exact Kd.Q_nil _ _ _ _ _ | exact Kd.S_nil _ _ _ _ _⟩, ⟨by (with_reducible repeat (first | apply jR | apply jQ | apply jS)); exact HO218.out⟩, ⟨zb0 HB⟩⟩
  case round =>
   clear H'
   try clear p2
   try clear c3
   try clear c4
   try clear c4b0
   try clear c4b1
   try clear c5
   obtain ⟨x7_1, x20_1, rfl, HA, HK1, HO_7, HO_18, HB⟩ := hrel
   cases gk with
   | zero => exact absurd HA.out (by simp [impl_TriesOf.l0])
   | succ k1 =>
    have H := HA.out
    clear HA
    simp only [impl_TriesOf.l0] at H
    by_cases c9 : x20_1 < (t216.length : Int)
    ·rw [if_pos c9] at H
     have c9b0 : decide (x20_1 < (t216.length : Int)) = true := jZ c9
     clear c9
     by_cases c10 : 0 ≤ x20_1
     ·rw [if_pos c10] at H
      have c10b0 : decide (0 ≤ x20_1) = true := jZ c10
      clear c10
      by_cases c11 : x20_1 < (t216.length : Int)
      ·rw [if_pos c11] at H
       have c11b0 : decide (x20_1 < (t216.length : Int)) = true := jZ c11
       clear c11
       by_cases c12 : x7_1.length < 17592186044416
       ·rw [if_pos c12] at H
        have LMc12 := jA c12
        clear c12
        obtain ⟨y221, hy221⟩ : ∃ y_ : List Int, y_ = (x7_1 ++ [(rd_T36 t216 x20_1).f1]) := ⟨_, rfl⟩
        replace H : (impl_TriesOf.l0 k1 y221 t216 (t216.length : Int) (wrap64 (x20_1 + 1))) = some (r1, r2) := by first | (rw [hy221]; with_reducible exact H) | (have H2_ := (Option.bind_some _ _).symm.trans H; rw [hy221]; with_reducible exact H2_) | (have H2_ := (Option.bind_some _ _).symm.trans H; with_reducible exact H2_) | with_reducible exact H | (rw [hy221]; exact H) | exact H
        have Ny221 := jA hy221
        clear hy221
        have H' := jA H
        clear H
        have p219 : 0 ≤ (x20_1 : Int) := jI za
        have q219 : x20_1 < (t216.length : Int) := jI za
        obtain ⟨ad219, e219, hx219_0, hx219_1, hx219_2⟩ := at_T36 (jD HO_18.out).2.2 x20_1 p219 q219
        cases e219
        replace p219 := eq_true p219
        replace q219 := eq_true q219
        go_wp2_with (first | ((with_reducible refine gate_dst (N := 9) rfl ?_); refine box_event ?hg (N := 9) ?hd (cs := #[.int .i64 0, .int .i64 0, .bool false]) (t := 36) ?hr ?_; (case hd => rfl); (case hg => rfl); (case hr => first | (go_simp; done) | (go_simp; rfl)); intro gb220 hg w13 hbox hb; have n0_ := jA (jK (zo HO_7) hb); have n1_ := jA (jK (Kd.R_elderB (zo HO_18) gb220 (Nat.le_of_eq hg.symm)) hb); have n2_ := jA (jH (zb0 HB) hb); have n3_ := jA (hbox); have n4_ := jA ((by rw [hg]; exact (jP (zb0 HB)) : w.heap.size ≤ gb220)); have n5_ := jA ((by rw [hg]; exact (jP (zb0 HB)) : w.heap.size ≤ gb220)); clear HO_7; clear HO_18; clear HB; have HO_7 := n0_; have HO_18 := n1_; have HB := n2_; have BK220 := n3_; have GW220 := n4_; have GE220 := n5_; clear n0_ n1_ n2_ n3_ n4_ n5_; clear hb hbox hg; have hcz14_0 : w13.cell? ⟨gb220, 0, none⟩ = some (.int .i64 0) := (jC BK220.out 0).trans rfl; have hcz14_1 : w13.cell? ⟨gb220, 1, none⟩ = some (.int .i64 0) := (jC BK220.out 1).trans rfl; have hcz14_2 : w13.cell? ⟨gb220, 2, none⟩ = some (.bool false) := (jC BK220.out 2).trans rfl; have hfz14_0 := jd BK220.out 0; have hfz14_1 := jd BK220.out 1; have hfz14_2 := jd BK220.out 2) | ((with_reducible refine gate_builtin (b := .append) (xs := #[.tmp 24, .tmp 27]) rfl ?_); at_builtin; refine Kd.R_append (Kd.int .i64) (w0 := w) w.heap.size rfl (.tmp 24) (.tmp 27) 40 2 (.int .i64 0) 8 rfl Try.underlying40 info2 rfl (by decide) (by omega) u7 x7_1 ((rd_T36 t216 x20_1).f1) [.int .i64 ((rd_T36 t216 x20_1).f1)] (fun _ => True) (fun _ => False) rfl (by first | (go_simp; done) | (go_simp; rfl)) ?aP (fun _ hk => hk.elim) ?aF ?aO ?aB ?aS ?aL ?_; (case aP => exact rfl); (case aB => exact (zb1 HB GE220)); (case aF => exact (fun _ _ => trivial)); (case aO => exact (by (with_reducible repeat (first | apply jR | apply jQ | apply jS)); exact Kd.R_mono (Kd.R_far (p := ⟨gb220, 2, none⟩) (Kd.R_far (p := ⟨gb220, 1, none⟩) (Kd.R_far (p := ⟨gb220, 0, none⟩) (Kd.R_types HO_7.out BK220.out (by decide)) (fun _ hk => hk.2) (.int .i64 ((rd_T36 t216 x20_1).f0))) (fun _ hk => hk.2) (.int .i64 ((rd_T36 t216 x20_1).f1))) (fun _ hk => hk.2) (.bool ((rd_T36 t216 x20_1).f2))) (fun _ hk => trivial))); (case aS => exact (jP (zb1 HB GE220))); (case aL => have := LMc12.out; omega); intro v222 w15 ho hb hg hat; rw [← Ny221.out] at ho; have n0_ := jA (Kd.R_over' (by (with_reducible repeat (first | apply jR | apply jQ | apply jS)); exact (Kd.R_mono (Kd.R_far (p := ⟨gb220, 2, none⟩) (Kd.R_far (p := ⟨gb220, 1, none⟩) (Kd.R_far (p := ⟨gb220, 0, none⟩) (Kd.R_mono HO_18.out (fun k_ hk => (⟨hk, hk.2⟩ : _ ∧ k_ ≠ gb220))) (fun _ hk => hk.2) (.int .i64 ((rd_T36 t216 x20_1).f0))) (fun _ hk => hk.2) (.int .i64 ((rd_T36 t216 x20_1).f1))) (fun _ hk => hk.2) (.bool ((rd_T36 t216 x20_1).f2))) (fun _ h_ => h_.1))) (Kd.R_typed (by (with_reducible repeat (first | apply jR | apply jQ | apply jS)); exact (Kd.R_mono (Kd.R_far (p := ⟨gb220, 2, none⟩) (Kd.R_far (p := ⟨gb220, 1, none⟩) (Kd.R_far (p := ⟨gb220, 0, none⟩) (Kd.R_types HO_7.out BK220.out (by decide)) (fun _ hk => hk.2) (.int .i64 ((rd_T36 t216 x20_1).f0))) (fun _ hk => hk.2) (.int .i64 ((rd_T36 t216 x20_1).f1))) (fun _ hk => hk.2) (.bool ((rd_T36 t216 x20_1).f2))) (fun _ h_ => h_.1)))) (by decide) hg); have n1_ := jA (blk_grown (g := gb220) (o := .cells #[.int .i64 ((rd_T36 t216 x20_1).f0), .int .i64 ((rd_T36 t216 x20_1).f1), .bool ((rd_T36 t216 x20_1).f2)] 36 (0, 0)) (by (with_reducible repeat (first | refine jX ?_ _ | refine jW ?_ | refine jY ?_ _)); refine blk_put (cs := #[.int .i64 ((rd_T36 t216 x20_1).f0), .int .i64 ((rd_T36 t216 x20_1).f1), .bool false]) ?_ 2 _ rfl; (with_reducible repeat (first | refine jX ?_ _ | refine jW ?_ | refine jY ?_ _)); refine blk_put (cs := #[.int .i64 ((rd_T36 t216 x20_1).f0), .int .i64 0, .bool false]) ?_ 1 _ rfl; (with_reducible repeat (first | refine jX ?_ _ | refine jW ?_ | refine jY ?_ _)); refine blk_put (cs := #[.int .i64 0, .int .i64 0, .bool false]) ?_ 0 _ rfl; (with_reducible repeat (first | refine jX ?_ _ | refine jW ?_ | refine jY ?_ _)); exact BK220.out) hg (Kd.R_ne HO_7.out BK220.out (by decide))); have n2_ := jA (hb); have n3_ := jA (ho); clear HO_18; clear BK220; clear HB; clear HO_7; have HO_18 := n0_; have BK220 := n1_; have HB := n2_; have HO223 := n3_; clear n0_ n1_ n2_ n3_; clear ho hb hg hat))
        go_roundg k1
        case measure => have := HK1.out; omega
        case rel => exact ⟨(y221), (wrap64 (x20_1 + 1)), zz, H', ⟨by have := HK1.out; omega⟩, ⟨by (with_reducible repeat (first | apply jR | apply jQ | apply jS)); exact HO223.out⟩, ⟨by (with_reducible repeat (first | apply jR | apply jQ | apply jS)); exact Kd.R_mono HO_18.out (fun _ hk => trivial)⟩, ⟨zb1 HB GE220⟩⟩
       ·rw [if_neg c12] at H
        exact absurd H (by simp)
      ·rw [if_neg c11] at H
       exact absurd H (by simp)
     ·rw [if_neg c10] at H
      exact absurd H (by simp)
    ·rw [if_neg c9] at H
     have c9b0 : decide (x20_1 < (t216.length : Int)) = false := jg c9
     clear c9
     simp only [jf, jh] at H
     obtain ⟨rfl, rfl⟩ := H
     go_wp2
     go_ret2
     exact ⟨_, by first | rfl | (simp [errW_none, errW_some] <;> rfl) | (simp [*, errW_none, errW_some] <;> rfl), by (with_reducible repeat (first | apply jR | apply jQ | apply jS)); exact HO_7.out, zb0 HB⟩
 ·rw [if_neg c4] at H
  have c4b0 : (t215 == 0) = false := beq_eq_false_iff_ne.mpr c4
  have c4b1 : (t215 != 0) = true := bne_iff_ne.mpr c4
  simp only [jf, jh] at H
  obtain ⟨rfl, rfl⟩ := H
  go_enter Try.func31, Try.ntmps31
  go_wp2_with (first | ((with_reducible refine jU (f := 56) rfl ?_); refine goesL_ (some 12) rfl rfl Try.func56 zr rfl #[.slice A0 l0.length c0, .int .i64 a1] rfl zm ?_; (with_reducible refine (impl_cueAsked.calls k _ _ l0 a1 t215 _ ?side1 ?side2 A3.out).mono ?_); (case side1 => repeat (first | exact HR0.out | (with_reducible refine jN ?_ _) | (with_reducible refine jM ?_ _) | (with_reducible refine jT ?_))); (case side2 => exact HC0.out); rintro e w16 ⟨rfl, hb⟩; refine ⟨_, rfl, ?_⟩; have n0_ := jA (jH (zb0 HB) hb); clear HB; have HB := n0_; clear n0_; (try clear hb); (try clear hb2); (try clear hk); (try clear hi)))
  go_ret2
  exact ⟨_, by first | rfl | (simp [errW_none, errW_some] <;> rfl) | (simp [*, errW_none, errW_some] <;> rfl), by first | exact Kd.R_nil _ _ _ _ _ | exact Kd.N_nil _ _ _ _ _ | exact Kd.V_nil _ _ _ _ _ | exact Kd.Q_nil _ _ _ _ _ | exact Kd.S_nil _ _ _ _ _, zb0 HB⟩

/-! ### laws_big: function 39 -/
def laws_big.f (l0 : List Int) : Option (Bool) := some (decide ((l0.length : Int) > 4096))
set_option maxHeartbeats 8000000 in
set_option maxRecDepth 100000 in
theorem laws_big.calls (A0 : Option Addr) (c0 : Nat) (l0 : List Int) (r : Bool) (w : World) (hr0 : Kd.C (Kd.int .u8) w A0 l0.length l0) (hc0 : l0.length ≤ c0) (h : laws_big.f l0 = some r) :
  Calls Try.prog 39 #[.slice A0 l0.length c0] w fun e w' => e = .returned (.bool r) ∧ Drawn0 w w' := by
 have HR0 := jA hr0
 have HC0 := jA hc0
 clear hr0 hc0
 have H : (some (decide ((l0.length : Int) > 4096))) = some r := h
 clear h
 obtain rfl := je H
 go_enter Try.func39, Try.ntmps39
 go_wp2
 go_ret
 exact ⟨by first | rfl | (simp; done) | (simp [*]; done), by repeat (first | exact Drawn0.refl _ | apply Drawn0.step)⟩

end Go.Proofs.Ythnpffomoaeeoaa.PFnTries
