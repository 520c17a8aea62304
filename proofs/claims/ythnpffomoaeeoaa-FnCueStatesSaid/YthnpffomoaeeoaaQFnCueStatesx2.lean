/- Functions and contracts that FnCueStates reaches (3 of 11). -/
import Derived.Test.YthnpffomoaeeoaaQFnCueStatesx1
namespace Go.Proofs.Ythnpffomoaeeoaa.PFnCueStates
open Go.RowKit Go.Proofs.YthnpffomoaeeoaaW.PrintWords Go.Proofs.YthnpffomoaeeoaaW.PrintLast Go.Proofs.YthnpffomoaeeoaaW.PrintMore
attribute [local go_sem] max2_int min2_int max_two min_two max_three min_three max_four min_four   -- for this text's walks alone
set_option linter.unusedVariables false
set_option linter.unusedSimpArgs false

/-! ### spec_l24Code: function 55 -/
def spec_l24Code.f (k : Nat) (l0 : List (S36)) (a1 : Int) : Option (Int) := (spec_AreTries.f k l0).bind fun t124 => (if t124 = true then ((spec_l01In.f a1 0 19).bind fun t125 => (if t125 = true then (some 0) else (some 2))) else (some 1))
theorem spec_l24Code.mono : ∀ a0 a1 k, LeO (spec_l24Code.f k a0 a1) (spec_l24Code.f (k + 1) a0 a1) := by
 intro a0 a1 k
 unfold spec_l24Code.f
 repeat' first
   | (with_reducible exact spec_AreTries.mono _ _)
   | (with_reducible exact LeO.refl _)
   | (with_reducible exact LeO.none _)
   | (with_reducible refine LeO.ite ?_ ?_)
   | (with_reducible refine LeO.bind ?_ (fun _ => ?_))
   | exact spec_AreTries.mono _ _
   | exact LeO.none _
   | refine LeO.ite ?_ ?_
   | refine LeO.bind ?_ (fun _ => ?_)
set_option maxHeartbeats 8000000 in
set_option maxRecDepth 100000 in
theorem spec_l24Code.calls (k : Nat) (A0 : Option Addr) (c0 : Nat) (l0 : List (S36)) (a1 : Int) (r : Int) (w : World) (hr0 : Kd.C k36 w A0 l0.length l0) (hc0 : l0.length ≤ c0) (h : spec_l24Code.f k l0 a1 = some r) :
  Calls Try.prog 55 #[.slice A0 l0.length c0, .int .i64 a1] w fun e w' => e = .returned (.int .i64 r) ∧ Below w.heap.size w w' := by
 have HR0 := jA hr0
 have HC0 := jA hc0
 clear hr0 hc0
 have HB := jA (Below.refl w.heap.size w)
 have H : ((spec_AreTries.f k l0).bind fun t124 => (if t124 = true then ((spec_l01In.f a1 0 19).bind fun t125 => (if t125 = true then (some 0) else (some 2))) else (some 1))) = some r := h
 clear h
 replace H := jD.mp H
 obtain ⟨t124, A30, H⟩ := H
 replace H : (if t124 = true then ((spec_l01In.f a1 0 19).bind fun t125 => (if t125 = true then (some 0) else (some 2))) else (some 1)) = some r := H
 have A3 := jA A30
 clear A30
 by_cases c4 : t124 = true
 ·subst c4
  have H1 : ((spec_l01In.f a1 0 19).bind fun t125 => (if t125 = true then (some 0) else (some 2))) = some r := by rw [if_pos rfl] at H; exact H
  clear H
  have H := H1
  clear H1
  replace H := jD.mp H
  obtain ⟨t125, A50, H⟩ := H
  replace H : (if t125 = true then (some 0) else (some 2)) = some r := H
  have A5 := jA A50
  clear A50
  by_cases c6 : t125 = true
  ·subst c6
   have H1 : (some 0) = some r := by rw [if_pos rfl] at H; exact H
   clear H
   have H := H1
   clear H1
   obtain rfl := jV H
   go_enter Try.func55, Try.ntmps55
   go_wp2_with (first | ((with_reducible refine jL (f := 14) rfl ?_); refine goesL_ (some 6) rfl rfl Try.func14 zr rfl #[.slice A0 l0.length c0] rfl zm ?_; (with_reducible refine (spec_AreTries.calls k _ _ l0 true _ ?side1 ?side2 A3.out).mono ?_); (case side1 => repeat (first | exact HR0.out | (with_reducible refine jP ?_ _) | (with_reducible refine jO ?_ _) | (with_reducible refine jU ?_))); (case side2 => exact HC0.out); rintro e w7 ⟨rfl, hb⟩; refine ⟨_, rfl, ?_⟩; have n0_ := jA (jM (zb0 HB) hb); clear HB; have HB := n0_; clear n0_; (try clear hb); (try clear hb2); (try clear hk); (try clear hi)) | ((with_reducible refine jL (f := 47) rfl ?_); refine goesL_ (some 9) rfl rfl Try.func47 zr rfl #[.int .i64 a1, .int .i64 0, .int .i64 19] rfl zm ?_; (with_reducible refine (spec_l01In.calls a1 0 19 true _ A5.out).mono ?_); rintro e w' ⟨rfl, ⟨nd, rfl⟩⟩; refine ⟨_, rfl, ?_⟩))
   go_ret
   exact ⟨by first | rfl | (simp [errW_none, errW_some] <;> rfl) | (simp [*, errW_none, errW_some] <;> rfl), zb0 HB⟩
  ·replace c6 := Bool.eq_false_iff.mpr c6
   subst c6
   have H1 : (some 2) = some r := by rw [if_neg (show ¬ (false = true) by decide)] at H; exact H
   clear H
   have H := H1
   clear H1
   obtain rfl := jV H
   go_enter Try.func55, Try.ntmps55
   go_wp2_with (first | ((with_reducible refine jL (f := 14) rfl ?_); refine goesL_ (some 6) rfl rfl Try.func14 zr rfl #[.slice A0 l0.length c0] rfl zm ?_; (with_reducible refine (spec_AreTries.calls k _ _ l0 true _ ?side1 ?side2 A3.out).mono ?_); (case side1 => repeat (first | exact HR0.out | (with_reducible refine jP ?_ _) | (with_reducible refine jO ?_ _) | (with_reducible refine jU ?_))); (case side2 => exact HC0.out); rintro e w8 ⟨rfl, hb⟩; refine ⟨_, rfl, ?_⟩; have n0_ := jA (jM (zb0 HB) hb); clear HB; have HB := n0_; clear n0_; (try clear hb); (try clear hb2); (try clear hk); (try clear hi)) | ((with_reducible refine jL (f := 47) rfl ?_); refine goesL_ (some 9) rfl rfl Try.func47 zr rfl #[.int .i64 a1, .int .i64 0, .int .i64 19] rfl zm ?_; (with_reducible refine (spec_l01In.calls a1 0 19 false _ A5.out).mono ?_); rintro e w' ⟨rfl, ⟨nd, rfl⟩⟩; refine ⟨_, rfl, ?_⟩))
   go_ret
   exact ⟨by first | rfl | (simp [errW_none, errW_some] <;> rfl) | (simp [*, errW_none, errW_some] <;> rfl), zb0 HB⟩
 ·replace c4 := Bool.eq_false_iff.mpr c4
  subst c4
  have H1 : (some 1) = some r := by rw [if_neg (show ¬ (false = true) by decide)] at H; exact H
  clear H
  have H := H1
  clear H1
  obtain rfl := jV H
  go_enter Try.func55, Try.ntmps55
  go_wp2_with (first | ((with_reducible refine jL (f := 14) rfl ?_); refine goesL_ (some 6) rfl rfl Try.func14 zr rfl #[.slice A0 l0.length c0] rfl zm ?_; (with_reducible refine (spec_AreTries.calls k _ _ l0 false _ ?side1 ?side2 A3.out).mono ?_); (case side1 => repeat (first | exact HR0.out | (with_reducible refine jP ?_ _) | (with_reducible refine jO ?_ _) | (with_reducible refine jU ?_))); (case side2 => exact HC0.out); rintro e w9 ⟨rfl, hb⟩; refine ⟨_, rfl, ?_⟩; have n0_ := jA (jM (zb0 HB) hb); clear HB; have HB := n0_; clear n0_; (try clear hb); (try clear hb2); (try clear hk); (try clear hi)))
  go_ret
  exact ⟨by first | rfl | (simp [errW_none, errW_some] <;> rfl) | (simp [*, errW_none, errW_some] <;> rfl), zb0 HB⟩

/-! ### spec_FiredIn: function 18 -/
def spec_FiredIn.f (k : Nat) (l0 : List (S36)) (a1 : Int) : Option (Int × Int) := (spec_l24Code.f k l0 a1).bind fun t126 => (if t126 = 0 then ((spec_l24Of.f k l0 a1).bind fun bt127 => (if bt127.2 = true then (if 0 ≤ (wrap64 ((bt127.1.length : Int) - 1)) then (if (wrap64 ((bt127.1.length : Int) - 1)) < (bt127.1.length : Int) then (some (rd bt127.1 (wrap64 ((bt127.1.length : Int) - 1)), 0)) else (none)) else (none)) else (some (0, 4)))) else (some (0, t126)))
theorem spec_FiredIn.mono : ∀ a0 a1 k, LeO (spec_FiredIn.f k a0 a1) (spec_FiredIn.f (k + 1) a0 a1) := by
 intro a0 a1 k
 unfold spec_FiredIn.f
 repeat' first
   | (with_reducible exact spec_l24Code.mono _ _ _)
   | (with_reducible exact spec_l24Of.mono _ _ _)
   | (with_reducible exact LeO.refl _)
   | (with_reducible exact LeO.none _)
   | (with_reducible refine LeO.ite ?_ ?_)
   | (with_reducible refine LeO.bind ?_ (fun _ => ?_))
   | exact spec_l24Code.mono _ _ _
   | exact spec_l24Of.mono _ _ _
   | exact LeO.none _
   | refine LeO.ite ?_ ?_
   | refine LeO.bind ?_ (fun _ => ?_)
set_option maxHeartbeats 8000000 in
set_option maxRecDepth 100000 in
theorem spec_FiredIn.calls (k : Nat) (A0 : Option Addr) (c0 : Nat) (l0 : List (S36)) (a1 : Int) (r1 : Int) (r2 : Int) (w : World) (hr0 : Kd.C k36 w A0 l0.length l0) (hc0 : l0.length ≤ c0) (h : spec_FiredIn.f k l0 a1 = some (r1, r2)) :
  Calls Try.prog 18 #[.slice A0 l0.length c0, .int .i64 a1] w fun e w' => e = .returned (.tuple #[.int .i64 r1, .int .i64 r2]) ∧ Below w.heap.size w w' := by
 have HR0 := jA hr0
 have HC0 := jA hc0
 clear hr0 hc0
 have HB := jA (Below.refl w.heap.size w)
 have H : ((spec_l24Code.f k l0 a1).bind fun t126 => (if t126 = 0 then ((spec_l24Of.f k l0 a1).bind fun bt127 => (if bt127.2 = true then (if 0 ≤ (wrap64 ((bt127.1.length : Int) - 1)) then (if (wrap64 ((bt127.1.length : Int) - 1)) < (bt127.1.length : Int) then (some (rd bt127.1 (wrap64 ((bt127.1.length : Int) - 1)), 0)) else (none)) else (none)) else (some (0, 4)))) else (some (0, t126)))) = some (r1, r2) := h
 clear h
 replace H := jD.mp H
 obtain ⟨t126, A30, H⟩ := H
 replace H : (if t126 = 0 then ((spec_l24Of.f k l0 a1).bind fun bt127 => (if bt127.2 = true then (if 0 ≤ (wrap64 ((bt127.1.length : Int) - 1)) then (if (wrap64 ((bt127.1.length : Int) - 1)) < (bt127.1.length : Int) then (some (rd bt127.1 (wrap64 ((bt127.1.length : Int) - 1)), 0)) else (none)) else (none)) else (some (0, 4)))) else (some (0, t126))) = some (r1, r2) := H
 have A3 := jA A30
 clear A30
 by_cases c4 : t126 = 0
 ·rw [if_pos c4] at H
  have c4b0 : (t126 == 0) = true := beq_iff_eq.mpr c4
  have c4b1 : (t126 != 0) = false := bne_eq_false_iff_eq.mpr c4
  clear c4
  replace H := jD.mp H
  obtain ⟨⟨t127, t128⟩, A50, H⟩ := H
  replace H : (if t128 = true then (if 0 ≤ (wrap64 ((t127.length : Int) - 1)) then (if (wrap64 ((t127.length : Int) - 1)) < (t127.length : Int) then (some (rd t127 (wrap64 ((t127.length : Int) - 1)), 0)) else (none)) else (none)) else (some (0, 4))) = some (r1, r2) := H
  have A5 := jA A50
  clear A50
  by_cases c6 : t128 = true
  ·subst c6
   have H1 : (if 0 ≤ (wrap64 ((t127.length : Int) - 1)) then (if (wrap64 ((t127.length : Int) - 1)) < (t127.length : Int) then (some (rd t127 (wrap64 ((t127.length : Int) - 1)), 0)) else (none)) else (none)) = some (r1, r2) := by rw [if_pos rfl] at H; exact H
   clear H
   have H := H1
   clear H1
   obtain ⟨ji7, hji7⟩ : ∃ j_ : Int, (wrap64 ((t127.length : Int) - 1)) = j_ := ⟨_, rfl⟩
   replace H : (if 0 ≤ (ji7) then (if (ji7) < (t127.length : Int) then (some (rd t127 (ji7), 0)) else (none)) else (none)) = some (r1, r2) := by first | (rw [hji7] at H; exact H) | (simp only [hji7] at H ⊢; exact H)
   (try rw [hji7] at A3)
   (try rw [hji7] at A5)
   have hji7w : (IntKind.i64.wrap ((t127.length : Int) - 1)) = ji7 := (i64_w _).trans hji7
   by_cases c8 : 0 ≤ (ji7)
   ·rw [if_pos c8] at H
    have c8b0 : decide (0 ≤ (ji7)) = true := jN c8
    clear c8
    by_cases c9 : (ji7) < (t127.length : Int)
    ·rw [if_pos c9] at H
     have c9b0 : decide ((ji7) < (t127.length : Int)) = true := jN c9
     clear c9
     simp only [jY, jc] at H
     obtain ⟨rfl, rfl⟩ := H
     go_enter Try.func18, Try.ntmps18
     go_wp2_with (first | ((with_reducible refine jL (f := 55) rfl ?_); refine goesL_ (some 11) rfl rfl Try.func55 zr rfl #[.slice A0 l0.length c0, .int .i64 a1] rfl zm ?_; (with_reducible refine (spec_l24Code.calls k _ _ l0 a1 t126 _ ?side1 ?side2 A3.out).mono ?_); (case side1 => repeat (first | exact HR0.out | (with_reducible refine jP ?_ _) | (with_reducible refine jO ?_ _) | (with_reducible refine jU ?_))); (case side2 => exact HC0.out); rintro e w10 ⟨rfl, hb⟩; refine ⟨_, rfl, ?_⟩; have n0_ := jA (jM (zb0 HB) hb); clear HB; have HB := n0_; clear n0_; (try clear hb); (try clear hb2); (try clear hk); (try clear hi)) | ((with_reducible refine jL (f := 48) rfl ?_); refine goesL_ (some 18) rfl rfl Try.func48 zr rfl #[.slice A0 l0.length c0, .int .i64 a1] rfl zm ?_; (with_reducible refine (spec_l24Of.calls k _ _ l0 a1 t127 true _ ?side1 ?side2 A5.out).mono ?_); (case side1 => exact zs HR0 HB); (case side2 => exact HC0.out); rintro e w11 ⟨v129, rfl, ho0, hb⟩; refine ⟨_, rfl, ?_⟩; have n0_ := jA (jZ ho0 (jT (zb0 HB))); have n1_ := jA (jM (zb0 HB) hb); clear HB; have HO130 := n0_; have HB := n1_; clear n0_ n1_; (try clear hb); (try clear hb2); (try clear hk); (try clear hi); (try clear ho0); obtain ⟨Ao12, co12, eo12⟩ := Kd.R_slice HO130.out; subst eo12; have p131 : 0 ≤ ((ji7) : Int) := jC za; have q131 : (ji7) < (t127.length : Int) := jC za; obtain ⟨ad131, e131, hx131_0⟩ := Kd.at_int (jH HO130.out).2.2 (ji7) p131 q131; cases e131; replace p131 := eq_true p131; replace q131 := eq_true q131))
     go_ret2
     exact ⟨by first | rfl | (simp [errW_none, errW_some] <;> rfl) | (simp only [← hji7]; first | rfl | (simp [errW_none, errW_some] <;> rfl)) | (simp [*, errW_none, errW_some] <;> rfl), zb0 HB⟩
    ·rw [if_neg c9] at H
     exact absurd H (by simp)
   ·rw [if_neg c8] at H
    exact absurd H (by simp)
  ·replace c6 := Bool.eq_false_iff.mpr c6
   subst c6
   have H1 : (some (0, 4)) = some (r1, r2) := by rw [if_neg (show ¬ (false = true) by decide)] at H; exact H
   clear H
   have H := H1
   clear H1
   simp only [jY, jc] at H
   obtain ⟨rfl, rfl⟩ := H
   go_enter Try.func18, Try.ntmps18
   go_wp2_with (first | ((with_reducible refine jL (f := 55) rfl ?_); refine goesL_ (some 11) rfl rfl Try.func55 zr rfl #[.slice A0 l0.length c0, .int .i64 a1] rfl zm ?_; (with_reducible refine (spec_l24Code.calls k _ _ l0 a1 t126 _ ?side1 ?side2 A3.out).mono ?_); (case side1 => repeat (first | exact HR0.out | (with_reducible refine jP ?_ _) | (with_reducible refine jO ?_ _) | (with_reducible refine jU ?_))); (case side2 => exact HC0.out); rintro e w13 ⟨rfl, hb⟩; refine ⟨_, rfl, ?_⟩; have n0_ := jA (jM (zb0 HB) hb); clear HB; have HB := n0_; clear n0_; (try clear hb); (try clear hb2); (try clear hk); (try clear hi)) | ((with_reducible refine jL (f := 48) rfl ?_); refine goesL_ (some 18) rfl rfl Try.func48 zr rfl #[.slice A0 l0.length c0, .int .i64 a1] rfl zm ?_; (with_reducible refine (spec_l24Of.calls k _ _ l0 a1 t127 false _ ?side1 ?side2 A5.out).mono ?_); (case side1 => exact zs HR0 HB); (case side2 => exact HC0.out); rintro e w14 ⟨v129, rfl, ho0, hb⟩; refine ⟨_, rfl, ?_⟩; have n0_ := jA (jZ ho0 (jT (zb0 HB))); have n1_ := jA (jM (zb0 HB) hb); clear HB; have HO130 := n0_; have HB := n1_; clear n0_ n1_; (try clear hb); (try clear hb2); (try clear hk); (try clear hi); (try clear ho0)))
   go_ret2
   exact ⟨by first | rfl | (simp [errW_none, errW_some] <;> rfl) | (simp [*, errW_none, errW_some] <;> rfl), zb0 HB⟩
 ·rw [if_neg c4] at H
  have c4b0 : (t126 == 0) = false := beq_eq_false_iff_ne.mpr c4
  have c4b1 : (t126 != 0) = true := bne_iff_ne.mpr c4
  simp only [jY, jc] at H
  obtain ⟨rfl, rfl⟩ := H
  go_enter Try.func18, Try.ntmps18
  go_wp2_with (first | ((with_reducible refine jL (f := 55) rfl ?_); refine goesL_ (some 11) rfl rfl Try.func55 zr rfl #[.slice A0 l0.length c0, .int .i64 a1] rfl zm ?_; (with_reducible refine (spec_l24Code.calls k _ _ l0 a1 t126 _ ?side1 ?side2 A3.out).mono ?_); (case side1 => repeat (first | exact HR0.out | (with_reducible refine jP ?_ _) | (with_reducible refine jO ?_ _) | (with_reducible refine jU ?_))); (case side2 => exact HC0.out); rintro e w15 ⟨rfl, hb⟩; refine ⟨_, rfl, ?_⟩; have n0_ := jA (jM (zb0 HB) hb); clear HB; have HB := n0_; clear n0_; (try clear hb); (try clear hb2); (try clear hk); (try clear hi)))
  go_ret2
  exact ⟨by first | rfl | (simp [errW_none, errW_some] <;> rfl) | (simp [*, errW_none, errW_some] <;> rfl), zb0 HB⟩

/-! ### impl_within: function 60 -/
def impl_within.f (a0 : Int) (a1 : Int) (a2 : Int) : Option (Bool) := if a1 ≤ a0 then (some (decide (a0 ≤ a2))) else (some false)
set_option maxHeartbeats 8000000 in
set_option maxRecDepth 100000 in
theorem impl_within.calls (a0 : Int) (a1 : Int) (a2 : Int) (r : Bool) (w : World) (h : impl_within.f a0 a1 a2 = some r) :
  Calls Try.prog 60 #[.int .i64 a0, .int .i64 a1, .int .i64 a2] w fun e w' => e = .returned (.bool r) ∧ Drawn0 w w' := by
 have H : (if a1 ≤ a0 then (some (decide (a0 ≤ a2))) else (some false)) = some r := h
 clear h
 by_cases c4 : a1 ≤ a0
 ·rw [if_pos c4] at H
  have c4b0 : decide (a1 ≤ a0) = true := jN c4
  clear c4
  obtain rfl := jV H
  go_enter Try.func60, Try.ntmps60
  go_wp2
  go_ret
  exact ⟨by first | rfl | (simp; done) | (simp [*]; done), by repeat (first | exact Drawn0.refl _ | apply Drawn0.step)⟩
 ·rw [if_neg c4] at H
  have c4b0 : decide (a1 ≤ a0) = false := jd c4
  clear c4
  obtain rfl := jV H
  go_enter Try.func60, Try.ntmps60
  go_wp2
  go_ret
  exact ⟨by first | rfl | (simp; done) | (simp [*]; done), by repeat (first | exact Drawn0.refl _ | apply Drawn0.step)⟩

/-! ### impl_isCue: function 51 -/
def impl_isCue.f (a0 : Int) : Option (Bool) := (impl_within.f a0 0 19).bind fun t132 => (some t132)
set_option maxHeartbeats 8000000 in
set_option maxRecDepth 100000 in
theorem impl_isCue.calls (a0 : Int) (r : Bool) (w : World) (h : impl_isCue.f a0 = some r) :
  Calls Try.prog 51 #[.int .i64 a0] w fun e w' => e = .returned (.bool r) ∧ Drawn0 w w' := by
 have H : ((impl_within.f a0 0 19).bind fun t132 => (some t132)) = some r := h
 clear h
 replace H := jD.mp H
 obtain ⟨t132, A20, H⟩ := H
 replace H : (some t132) = some r := H
 have A2 := jA A20
 clear A20
 obtain rfl := jV H
 go_enter Try.func51, Try.ntmps51
 go_wp2_with (first | ((with_reducible refine jL (f := 60) rfl ?_); refine goesL_ (some 4) rfl rfl Try.func60 zr rfl #[.int .i64 a0, .int .i64 0, .int .i64 19] rfl zm ?_; (with_reducible refine (impl_within.calls a0 0 19 t132 _ A2.out).mono ?_); rintro e w' ⟨rfl, ⟨nd, rfl⟩⟩; refine ⟨_, rfl, ?_⟩))
 go_ret
 exact ⟨by first | rfl | (simp; done) | (simp [*]; done), by repeat (first | exact Drawn0.refl _ | apply Drawn0.step)⟩

/-! ### impl_isTick: function 52 -/
def impl_isTick.f (a0 : Int) : Option (Bool) := (impl_within.f a0 0 100000).bind fun t133 => (some t133)
set_option maxHeartbeats 8000000 in
set_option maxRecDepth 100000 in
theorem impl_isTick.calls (a0 : Int) (r : Bool) (w : World) (h : impl_isTick.f a0 = some r) :
  Calls Try.prog 52 #[.int .i64 a0] w fun e w' => e = .returned (.bool r) ∧ Drawn0 w w' := by
 have H : ((impl_within.f a0 0 100000).bind fun t133 => (some t133)) = some r := h
 clear h
 replace H := jD.mp H
 obtain ⟨t133, A20, H⟩ := H
 replace H : (some t133) = some r := H
 have A2 := jA A20
 clear A20
 obtain rfl := jV H
 go_enter Try.func52, Try.ntmps52
 go_wp2_with (first | ((with_reducible refine jL (f := 60) rfl ?_); refine goesL_ (some 4) rfl rfl Try.func60 zr rfl #[.int .i64 a0, .int .i64 0, .int .i64 100000] rfl zm ?_; (with_reducible refine (impl_within.calls a0 0 100000 t133 _ A2.out).mono ?_); rintro e w' ⟨rfl, ⟨nd, rfl⟩⟩; refine ⟨_, rfl, ?_⟩))
 go_ret
 exact ⟨by first | rfl | (simp; done) | (simp [*]; done), by repeat (first | exact Drawn0.refl _ | apply Drawn0.step)⟩

/-! ### impl_triesOf: function 57 -/
def impl_triesOf.l0 : Nat → Int → List (S36) → List (S36) → Int → Int → Option ((List (S36)))
 | 0, _, _, _, _, _ => none
 | k + 1, x1, x5, x8, x9, x10 => if x10 < x9 then (if 0 ≤ x10 then (if x10 < (x8.length : Int) then (if ((rd_T36 x8 x10).f0) = x1 then (if x5.length < 5864062014805 then (impl_triesOf.l0 k x1 (x5 ++ [(⟨(rd_T36 x8 x10).f0, (rd_T36 x8 x10).f1, (rd_T36 x8 x10).f2⟩ : S36)]) x8 x9 (wrap64 (x10 + 1))) else (none)) else (impl_triesOf.l0 k x1 x5 x8 x9 (wrap64 (x10 + 1)))) else (none)) else (none)) else (some x5)
def impl_triesOf.f (k : Nat) (l0 : List (S36)) (a1 : Int) : Option ((List (S36))) := impl_triesOf.l0 k a1 ([] : List (S36)) l0 (l0.length : Int) 0
theorem impl_triesOf.mono_l : ∀ k, (∀ y0 y1 y2 y3 y4, LeO (impl_triesOf.l0 k y0 y1 y2 y3 y4) (impl_triesOf.l0 (k + 1) y0 y1 y2 y3 y4))
 | 0 => fun _ _ _ _ _ r h => by simp [impl_triesOf.l0] at h
 | k + 1 => by
  have ih0 := impl_triesOf.mono_l k
  ·intro y0 y1 y2 y3 y4
   unfold impl_triesOf.l0
   repeat' first
   | (with_reducible exact ih0 _ _ _ _ _)
   | (with_reducible exact LeO.refl _)
   | (with_reducible exact LeO.none _)
   | (with_reducible refine LeO.ite ?_ ?_)
   | (with_reducible refine LeO.bind ?_ (fun _ => ?_))
   | exact ih0 _ _ _ _ _
   | exact LeO.none _
   | refine LeO.ite ?_ ?_
   | refine LeO.bind ?_ (fun _ => ?_)
theorem impl_triesOf.mono : ∀ a0 a1 k, LeO (impl_triesOf.f k a0 a1) (impl_triesOf.f (k + 1) a0 a1) := by
 intro a0 a1 k
 have ih0 := impl_triesOf.mono_l k
 unfold impl_triesOf.f
 repeat' first
   | (with_reducible exact ih0 _ _ _ _ _)
   | (with_reducible exact LeO.refl _)
   | (with_reducible exact LeO.none _)
   | (with_reducible refine LeO.ite ?_ ?_)
   | (with_reducible refine LeO.bind ?_ (fun _ => ?_))
   | exact ih0 _ _ _ _ _
   | exact LeO.none _
   | refine LeO.ite ?_ ?_
   | refine LeO.bind ?_ (fun _ => ?_)
set_option maxHeartbeats 8000000 in
set_option maxRecDepth 100000 in
theorem impl_triesOf.calls (k : Nat) (A0 : Option Addr) (c0 : Nat) (l0 : List (S36)) (a1 : Int) (r : List (S36)) (w : World) (hr0 : Kd.C k36 w A0 l0.length l0) (hc0 : l0.length ≤ c0) (h : impl_triesOf.f k l0 a1 = some r) :
  Calls Try.prog 57 #[.slice A0 l0.length c0, .int .i64 a1] w fun e w' => ∃ v0_ : Value, e = .returned (v0_) ∧ Kd.R k36 36 w' w.heap.size (fun _ => True) v0_ r ∧ Below w.heap.size w w' := by
 have hu36 := Try.underlying36
 have HR0 := jA hr0
 have HC0 := jA hc0
 clear hr0 hc0
 have HB := jA (Below.refl w.heap.size w)
 have H : (impl_triesOf.l0 k a1 ([] : List (S36)) l0 (l0.length : Int) 0) = some r := h
 clear h
 have H' := jA H
 clear H
 go_enter Try.func57, Try.ntmps57
 go_wp2
 go_loopg [5, 10] k (fun kq v5 v10 w' => ∃ (x5_1 : List (S36)) (x10_1 : Int), v10 = .int .i64 x10_1 ∧ Aside0 (impl_triesOf.l0 kq a1 x5_1 l0 (l0.length : Int) x10_1 = some r) ∧ Aside0 (kq ≤ k) ∧ Aside0 (Kd.R k36 36 w' w.heap.size (fun _ => True) v5 x5_1) ∧ Aside0 (Below w.heap.size w w'))
 case atStart => exact ⟨(([] : List (S36))), (0), zz, H', ⟨Nat.le_refl _⟩, ⟨by first | exact Kd.R_nil _ _ _ _ _ | exact Kd.N_nil _ _ _ _ _ | exact Kd.V_nil _ _ _ _ _ | exact Kd.Q_nil _ _ _ _ _ | exact Kd.S_nil _ _ _ _ _⟩, ⟨zb0 HB⟩⟩
 case round =>
  clear H'
  try clear p2
  obtain ⟨x5_1, x10_1, rfl, HA, HK1, HO_5, HB⟩ := hrel
  cases gk with
  | zero => exact absurd HA.out (by simp [impl_triesOf.l0])
  | succ k1 =>
   have H := HA.out
   clear HA
   simp only [impl_triesOf.l0] at H
   by_cases c3 : x10_1 < (l0.length : Int)
   ·rw [if_pos c3] at H
    have c3b0 : decide (x10_1 < (l0.length : Int)) = true := jN c3
    clear c3
    by_cases c4 : 0 ≤ x10_1
    ·rw [if_pos c4] at H
     have c4b0 : decide (0 ≤ x10_1) = true := jN c4
     clear c4
     by_cases c5 : x10_1 < (l0.length : Int)
     ·rw [if_pos c5] at H
      have c5b0 : decide (x10_1 < (l0.length : Int)) = true := jN c5
      clear c5
      by_cases c6 : ((rd_T36 l0 x10_1).f0) = a1
      ·rw [if_pos c6] at H
       have c6b0 : (((rd_T36 l0 x10_1).f0) == a1) = true := beq_iff_eq.mpr c6
       have c6b1 : (((rd_T36 l0 x10_1).f0) != a1) = false := bne_eq_false_iff_eq.mpr c6
       clear c6
       by_cases c7 : x5_1.length < 5864062014805
       ·rw [if_pos c7] at H
        have LMc7 := jA c7
        clear c7
        obtain ⟨y136, hy136⟩ : ∃ y_ : List (S36), y_ = (x5_1 ++ [(⟨(rd_T36 l0 x10_1).f0, (rd_T36 l0 x10_1).f1, (rd_T36 l0 x10_1).f2⟩ : S36)]) := ⟨_, rfl⟩
        replace H : (impl_triesOf.l0 k1 a1 y136 l0 (l0.length : Int) (wrap64 (x10_1 + 1))) = some r := by first | (rw [hy136]; with_reducible exact H) | (have H2_ := (Option.bind_some _ _).symm.trans H; rw [hy136]; with_reducible exact H2_) | (have H2_ := (Option.bind_some _ _).symm.trans H; with_reducible exact H2_) | with_reducible exact H | (rw [hy136]; exact H) | exact H
        have Ny136 := jA hy136
        clear hy136
        have H' := jA H
        clear H
        have p134 : 0 ≤ (x10_1 : Int) := jC za
        have q134 : x10_1 < (l0.length : Int) := jC za
        obtain ⟨ad134, e134, hx134_0, hx134_1, hx134_2⟩ := at_T36 HR0.out x10_1 p134 q134
        cases e134
        replace hx134_0 := (HB.out.cell (jR w _ hx134_0)).trans hx134_0
        replace hx134_1 := (HB.out.cell (jR w _ hx134_1)).trans hx134_1
        replace hx134_2 := (HB.out.cell (jR w _ hx134_2)).trans hx134_2
        replace p134 := eq_true p134
        replace q134 := eq_true q134
        go_wp2_with (first | ((with_reducible refine gate_dst (N := 7) rfl ?_); refine box_event ?hg (N := 7) ?hd (cs := #[.int .i64 0, .int .i64 0, .bool false]) (t := 36) ?hr ?_; (case hd => rfl); (case hg => rfl); (case hr => first | (go_simp; done) | (go_simp; rfl)); intro gb135 hg w8 hbox hb; have n0_ := jA (jX (Kd.R_elderB (zo HO_5) gb135 (Nat.le_of_eq hg.symm)) hb); have n1_ := jA (jM (zb0 HB) hb); have n2_ := jA (hbox); have n3_ := jA ((by rw [hg]; exact (jT (zb0 HB)) : w.heap.size ≤ gb135)); have n4_ := jA ((by rw [hg]; exact (jT (zb0 HB)) : w.heap.size ≤ gb135)); clear HO_5; clear HB; have HO_5 := n0_; have HB := n1_; have BK135 := n2_; have GW135 := n3_; have GE135 := n4_; clear n0_ n1_ n2_ n3_ n4_; clear hb hbox hg; have hcz9_0 : w8.cell? ⟨gb135, 0, none⟩ = some (.int .i64 0) := (jE BK135.out 0).trans rfl; have hcz9_1 : w8.cell? ⟨gb135, 1, none⟩ = some (.int .i64 0) := (jE BK135.out 1).trans rfl; have hcz9_2 : w8.cell? ⟨gb135, 2, none⟩ = some (.bool false) := (jE BK135.out 2).trans rfl; have hfz9_0 := je BK135.out 0; have hfz9_1 := je BK135.out 1; have hfz9_2 := je BK135.out 2) | ((with_reducible refine gate_builtin (b := .append) (xs := #[.tmp 18, .tmp 20]) rfl ?_); at_builtin; refine Kd.R_append k36 (w0 := w) w.heap.size rfl (.tmp 18) (.tmp 20) 25 36 (.agg #[(.int .i64 0), (.int .i64 0), (.bool false)]) 24 rfl Try.underlying25 info36 rfl (by decide) (by omega) u5 x5_1 (⟨(rd_T36 l0 x10_1).f0, (rd_T36 l0 x10_1).f1, (rd_T36 l0 x10_1).f2⟩ : S36) [.int .i64 ((rd_T36 l0 x10_1).f0), .int .i64 ((rd_T36 l0 x10_1).f1), .bool ((rd_T36 l0 x10_1).f2)] (fun k_ => k_ ≠ gb135) (fun _ => False) rfl (by first | (go_simp; done) | (go_simp; rfl)) ?aP (fun _ hk => hk.elim) ?aF ?aO ?aB ?aS ?aL ?_; (case aP => exact k36_mkM _ _ _ (⟨(rd_T36 l0 x10_1).f0, (rd_T36 l0 x10_1).f1, (rd_T36 l0 x10_1).f2⟩ : S36)); (case aB => exact (zb1 HB GE135)); (case aF => exact (fun k_ hk => Kd.freshB (g := gb135) (o := .cells #[.int .i64 ((rd_T36 l0 x10_1).f0), .int .i64 ((rd_T36 l0 x10_1).f1), .bool ((rd_T36 l0 x10_1).f2)] 36 (0, 0)) (by (with_reducible repeat (first | refine blk_drewN ?_ _ | refine jb ?_ | refine blk_alloc ?_ _)); refine blk_put (cs := #[.int .i64 ((rd_T36 l0 x10_1).f0), .int .i64 ((rd_T36 l0 x10_1).f1), .bool false]) ?_ 2 _ rfl; (with_reducible repeat (first | refine blk_drewN ?_ _ | refine jb ?_ | refine blk_alloc ?_ _)); refine blk_put (cs := #[.int .i64 ((rd_T36 l0 x10_1).f0), .int .i64 0, .bool false]) ?_ 1 _ rfl; (with_reducible repeat (first | refine blk_drewN ?_ _ | refine jb ?_ | refine blk_alloc ?_ _)); refine blk_put (cs := #[.int .i64 0, .int .i64 0, .bool false]) ?_ 0 _ rfl; (with_reducible repeat (first | refine blk_drewN ?_ _ | refine jb ?_ | refine blk_alloc ?_ _)); exact BK135.out) k_ hk)); (case aO => exact (by (with_reducible repeat (first | apply jG | apply jF | apply jK)); exact Kd.R_mono (Kd.R_far (p := ⟨gb135, 2, none⟩) (Kd.R_far (p := ⟨gb135, 1, none⟩) (Kd.R_far (p := ⟨gb135, 0, none⟩) (Kd.R_mono HO_5.out (fun k_ hk => (⟨hk, hk.2⟩ : _ ∧ k_ ≠ gb135))) (fun _ hk => hk.2) (.int .i64 ((rd_T36 l0 x10_1).f0))) (fun _ hk => hk.2) (.int .i64 ((rd_T36 l0 x10_1).f1))) (fun _ hk => hk.2) (.bool ((rd_T36 l0 x10_1).f2))) (fun _ hk => hk.1.2))); (case aS => exact (jT (zb1 HB GE135))); (case aL => have := LMc7.out; omega); intro v137 w10 ho hb hg hat; rw [← Ny136.out] at ho; have n0_ := jA (blk_grown (g := gb135) (o := .cells #[.int .i64 ((rd_T36 l0 x10_1).f0), .int .i64 ((rd_T36 l0 x10_1).f1), .bool ((rd_T36 l0 x10_1).f2)] 36 (0, 0)) (by (with_reducible repeat (first | refine blk_drewN ?_ _ | refine jb ?_ | refine blk_alloc ?_ _)); refine blk_put (cs := #[.int .i64 ((rd_T36 l0 x10_1).f0), .int .i64 ((rd_T36 l0 x10_1).f1), .bool false]) ?_ 2 _ rfl; (with_reducible repeat (first | refine blk_drewN ?_ _ | refine jb ?_ | refine blk_alloc ?_ _)); refine blk_put (cs := #[.int .i64 ((rd_T36 l0 x10_1).f0), .int .i64 0, .bool false]) ?_ 1 _ rfl; (with_reducible repeat (first | refine blk_drewN ?_ _ | refine jb ?_ | refine blk_alloc ?_ _)); refine blk_put (cs := #[.int .i64 0, .int .i64 0, .bool false]) ?_ 0 _ rfl; (with_reducible repeat (first | refine blk_drewN ?_ _ | refine jb ?_ | refine blk_alloc ?_ _)); exact BK135.out) hg (Kd.R_away HO_5.out (fun _ hk => hk.2))); have n1_ := jA (hb); have n2_ := jA (ho); clear BK135; clear HB; clear HO_5; have BK135 := n0_; have HB := n1_; have HO138 := n2_; clear n0_ n1_ n2_; clear ho hb hg hat))
        go_roundg k1
        case measure => have := HK1.out; omega
        case rel => exact ⟨(y136), (wrap64 (x10_1 + 1)), zz, H', ⟨by have := HK1.out; omega⟩, ⟨by (with_reducible repeat (first | apply jG | apply jF | apply jK)); exact Kd.R_mono HO138.out (fun _ hk => trivial)⟩, ⟨zb1 HB GE135⟩⟩
       ·rw [if_neg c7] at H
        exact absurd H (by simp)
      ·rw [if_neg c6] at H
       have c6b0 : (((rd_T36 l0 x10_1).f0) == a1) = false := beq_eq_false_iff_ne.mpr c6
       have c6b1 : (((rd_T36 l0 x10_1).f0) != a1) = true := bne_iff_ne.mpr c6
       have H' := jA H
       clear H
       have p134 : 0 ≤ (x10_1 : Int) := jC za
       have q134 : x10_1 < (l0.length : Int) := jC za
       obtain ⟨ad134, e134, hx134_0, hx134_1, hx134_2⟩ := at_T36 HR0.out x10_1 p134 q134
       cases e134
       replace hx134_0 := (HB.out.cell (jR w _ hx134_0)).trans hx134_0
       replace hx134_1 := (HB.out.cell (jR w _ hx134_1)).trans hx134_1
       replace hx134_2 := (HB.out.cell (jR w _ hx134_2)).trans hx134_2
       replace p134 := eq_true p134
       replace q134 := eq_true q134
       go_wp2_with (first | ((with_reducible refine gate_dst (N := 7) rfl ?_); refine box_event ?hg (N := 7) ?hd (cs := #[.int .i64 0, .int .i64 0, .bool false]) (t := 36) ?hr ?_; (case hd => rfl); (case hg => rfl); (case hr => first | (go_simp; done) | (go_simp; rfl)); intro gb135 hg w11 hbox hb; have n0_ := jA (jX (Kd.R_elderB (zo HO_5) gb135 (Nat.le_of_eq hg.symm)) hb); have n1_ := jA (jM (zb0 HB) hb); have n2_ := jA (hbox); have n3_ := jA ((by rw [hg]; exact (jT (zb0 HB)) : w.heap.size ≤ gb135)); have n4_ := jA ((by rw [hg]; exact (jT (zb0 HB)) : w.heap.size ≤ gb135)); clear HO_5; clear HB; have HO_5 := n0_; have HB := n1_; have BK135 := n2_; have GW135 := n3_; have GE135 := n4_; clear n0_ n1_ n2_ n3_ n4_; clear hb hbox hg; have hcz12_0 : w11.cell? ⟨gb135, 0, none⟩ = some (.int .i64 0) := (jE BK135.out 0).trans rfl; have hcz12_1 : w11.cell? ⟨gb135, 1, none⟩ = some (.int .i64 0) := (jE BK135.out 1).trans rfl; have hcz12_2 : w11.cell? ⟨gb135, 2, none⟩ = some (.bool false) := (jE BK135.out 2).trans rfl; have hfz12_0 := je BK135.out 0; have hfz12_1 := je BK135.out 1; have hfz12_2 := je BK135.out 2))
       go_roundg k1
       case measure => have := HK1.out; omega
       case rel => exact ⟨(x5_1), (wrap64 (x10_1 + 1)), zz, H', ⟨by have := HK1.out; omega⟩, ⟨by (with_reducible repeat (first | apply jG | apply jF | apply jK)); exact Kd.R_mono (Kd.R_far (p := ⟨gb135, 2, none⟩) (Kd.R_far (p := ⟨gb135, 1, none⟩) (Kd.R_far (p := ⟨gb135, 0, none⟩) (Kd.R_mono HO_5.out (fun k_ hk => (⟨hk, hk.2⟩ : _ ∧ k_ ≠ gb135))) (fun _ hk => hk.2) (.int .i64 ((rd_T36 l0 x10_1).f0))) (fun _ hk => hk.2) (.int .i64 ((rd_T36 l0 x10_1).f1))) (fun _ hk => hk.2) (.bool ((rd_T36 l0 x10_1).f2))) (fun _ hk => trivial)⟩, ⟨zb1 HB GE135⟩⟩
     ·rw [if_neg c5] at H
      exact absurd H (by simp)
    ·rw [if_neg c4] at H
     exact absurd H (by simp)
   ·rw [if_neg c3] at H
    have c3b0 : decide (x10_1 < (l0.length : Int)) = false := jd c3
    clear c3
    obtain rfl := jV H
    go_wp2
    go_ret
    exact ⟨_, by first | rfl | (simp [errW_none, errW_some] <;> rfl) | (simp [*, errW_none, errW_some] <;> rfl), by (with_reducible repeat (first | apply jG | apply jF | apply jK)); exact HO_5.out, zb0 HB⟩

/-! ### impl_cueState: function 53 -/
def impl_cueState.f (k : Nat) (l0 : List (S36)) (a1 : Int) : Option (Int) := (impl_triesOf.f k l0 a1).bind fun t139 => (if (t139.length : Int) = 0 then (some 0) else (if 0 ≤ (wrap64 ((t139.length : Int) - 1)) then (if (wrap64 ((t139.length : Int) - 1)) < (t139.length : Int) then (if (rd_T36 t139 (wrap64 ((t139.length : Int) - 1))).f2 = true then (some 2) else (if (t139.length : Int) = 3 then (some 3) else (some 1))) else (none)) else (none)))
theorem impl_cueState.mono : ∀ a0 a1 k, LeO (impl_cueState.f k a0 a1) (impl_cueState.f (k + 1) a0 a1) := by
 intro a0 a1 k
 unfold impl_cueState.f
 repeat' first
   | (with_reducible exact impl_triesOf.mono _ _ _)
   | (with_reducible exact LeO.refl _)
   | (with_reducible exact LeO.none _)
   | (with_reducible refine LeO.ite ?_ ?_)
   | (with_reducible refine LeO.bind ?_ (fun _ => ?_))
   | exact impl_triesOf.mono _ _ _
   | exact LeO.none _
   | refine LeO.ite ?_ ?_
   | refine LeO.bind ?_ (fun _ => ?_)
set_option maxHeartbeats 8000000 in
set_option maxRecDepth 100000 in
theorem impl_cueState.calls (k : Nat) (A0 : Option Addr) (c0 : Nat) (l0 : List (S36)) (a1 : Int) (r : Int) (w : World) (hr0 : Kd.C k36 w A0 l0.length l0) (hc0 : l0.length ≤ c0) (h : impl_cueState.f k l0 a1 = some r) :
  Calls Try.prog 53 #[.slice A0 l0.length c0, .int .i64 a1] w fun e w' => e = .returned (.int .i64 r) ∧ Below w.heap.size w w' := by
 have HR0 := jA hr0
 have HC0 := jA hc0
 clear hr0 hc0
 have HB := jA (Below.refl w.heap.size w)
 have H : ((impl_triesOf.f k l0 a1).bind fun t139 => (if (t139.length : Int) = 0 then (some 0) else (if 0 ≤ (wrap64 ((t139.length : Int) - 1)) then (if (wrap64 ((t139.length : Int) - 1)) < (t139.length : Int) then (if (rd_T36 t139 (wrap64 ((t139.length : Int) - 1))).f2 = true then (some 2) else (if (t139.length : Int) = 3 then (some 3) else (some 1))) else (none)) else (none)))) = some r := h
 clear h
 replace H := jD.mp H
 obtain ⟨t139, A30, H⟩ := H
 replace H : (if (t139.length : Int) = 0 then (some 0) else (if 0 ≤ (wrap64 ((t139.length : Int) - 1)) then (if (wrap64 ((t139.length : Int) - 1)) < (t139.length : Int) then (if (rd_T36 t139 (wrap64 ((t139.length : Int) - 1))).f2 = true then (some 2) else (if (t139.length : Int) = 3 then (some 3) else (some 1))) else (none)) else (none))) = some r := H
 have A3 := jA A30
 clear A30
 by_cases c4 : (t139.length : Int) = 0
 ·rw [if_pos c4] at H
  have c4b0 : ((t139.length : Int) == 0) = true := beq_iff_eq.mpr c4
  have c4b1 : ((t139.length : Int) != 0) = false := bne_eq_false_iff_eq.mpr c4
  clear c4
  obtain rfl := jV H
  go_enter Try.func53, Try.ntmps53
  go_wp2_with (first | ((with_reducible refine jL (f := 57) rfl ?_); refine goesL_ (some 8) rfl rfl Try.func57 zr rfl #[.slice A0 l0.length c0, .int .i64 a1] rfl zm ?_; (with_reducible refine (impl_triesOf.calls k _ _ l0 a1 t139 _ ?side1 ?side2 A3.out).mono ?_); (case side1 => repeat (first | exact HR0.out | (with_reducible refine jP ?_ _) | (with_reducible refine jO ?_ _) | (with_reducible refine jU ?_))); (case side2 => exact HC0.out); rintro e w5 ⟨v140, rfl, ho0, hb⟩; refine ⟨_, rfl, ?_⟩; have n0_ := jA (jZ ho0 (jT (zb0 HB))); have n1_ := jA (jM (zb0 HB) hb); clear HB; have HO141 := n0_; have HB := n1_; clear n0_ n1_; (try clear hb); (try clear hb2); (try clear hk); (try clear hi); (try clear ho0); obtain ⟨Ao6, co6, eo6⟩ := Kd.R_slice HO141.out; subst eo6))
  go_ret
  exact ⟨by first | rfl | (simp [errW_none, errW_some] <;> rfl) | (simp [*, errW_none, errW_some] <;> rfl), zb0 HB⟩
 ·rw [if_neg c4] at H
  have c4b0 : ((t139.length : Int) == 0) = false := beq_eq_false_iff_ne.mpr c4
  have c4b1 : ((t139.length : Int) != 0) = true := bne_iff_ne.mpr c4
  have c4b2 : ¬ (t139 = []) := fun h_ => c4 (by rw [h_]; rfl)
  obtain ⟨ji7, hji7⟩ : ∃ j_ : Int, (wrap64 ((t139.length : Int) - 1)) = j_ := ⟨_, rfl⟩
  replace H : (if 0 ≤ (ji7) then (if (ji7) < (t139.length : Int) then (if (rd_T36 t139 (ji7)).f2 = true then (some 2) else (if (t139.length : Int) = 3 then (some 3) else (some 1))) else (none)) else (none)) = some r := by first | (rw [hji7] at H; exact H) | (simp only [hji7] at H ⊢; exact H)
  (try rw [hji7] at A3)
  have hji7w : (IntKind.i64.wrap ((t139.length : Int) - 1)) = ji7 := (i64_w _).trans hji7
  by_cases c8 : 0 ≤ (ji7)
  ·rw [if_pos c8] at H
   have c8b0 : decide (0 ≤ (ji7)) = true := jN c8
   clear c8
   by_cases c9 : (ji7) < (t139.length : Int)
   ·rw [if_pos c9] at H
    have c9b0 : decide ((ji7) < (t139.length : Int)) = true := jN c9
    clear c9
    obtain ⟨bq10, hbq10⟩ : ∃ b_ : Bool, b_ = ((rd_T36 t139 (ji7)).f2) := ⟨_, rfl⟩
    replace H : (if bq10 = true then (some 2) else (if (t139.length : Int) = 3 then (some 3) else (some 1))) = some r := by rw [← hbq10] at H; exact H
    have Nbq10 := jA hbq10
    clear hbq10
    by_cases c11 : bq10 = true
    ·subst c11
     have H1 : (some 2) = some r := by rw [if_pos rfl] at H; exact H
     clear H
     have H := H1
     clear H1
     obtain rfl := jV H
     go_enter Try.func53, Try.ntmps53
     go_wp2_with (first | ((with_reducible refine jL (f := 57) rfl ?_); refine goesL_ (some 8) rfl rfl Try.func57 zr rfl #[.slice A0 l0.length c0, .int .i64 a1] rfl zm ?_; (with_reducible refine (impl_triesOf.calls k _ _ l0 a1 t139 _ ?side1 ?side2 A3.out).mono ?_); (case side1 => repeat (first | exact HR0.out | (with_reducible refine jP ?_ _) | (with_reducible refine jO ?_ _) | (with_reducible refine jU ?_))); (case side2 => exact HC0.out); rintro e w12 ⟨v140, rfl, ho0, hb⟩; refine ⟨_, rfl, ?_⟩; have n0_ := jA (jZ ho0 (jT (zb0 HB))); have n1_ := jA (jM (zb0 HB) hb); clear HB; have HO141 := n0_; have HB := n1_; clear n0_ n1_; (try clear hb); (try clear hb2); (try clear hk); (try clear hi); (try clear ho0); obtain ⟨Ao13, co13, eo13⟩ := Kd.R_slice HO141.out; subst eo13; have p142 : 0 ≤ ((ji7) : Int) := jC za; have q142 : (ji7) < (t139.length : Int) := jC za; obtain ⟨ad142, e142, hx142_0, hx142_1, hx142_2⟩ := at_T36 (jH HO141.out).2.2 (ji7) p142 q142; (try rw [← Nbq10.out] at hx142_2); cases e142; replace p142 := eq_true p142; replace q142 := eq_true q142))
     go_ret
     exact ⟨by first | rfl | (simp [errW_none, errW_some] <;> rfl) | (simp only [← hji7]; first | rfl | (simp [errW_none, errW_some] <;> rfl)) | (simp [*, errW_none, errW_some] <;> rfl), zb0 HB⟩
    ·replace c11 := Bool.eq_false_iff.mpr c11
     subst c11
     have H1 : (if (t139.length : Int) = 3 then (some 3) else (some 1)) = some r := by rw [if_neg (show ¬ (false = true) by decide)] at H; exact H
     clear H
     have H := H1
     clear H1
     by_cases c14 : (t139.length : Int) = 3
     ·rw [if_pos c14] at H
      have c14b0 : ((t139.length : Int) == 3) = true := beq_iff_eq.mpr c14
      have c14b1 : ((t139.length : Int) != 3) = false := bne_eq_false_iff_eq.mpr c14
      clear c14
      obtain rfl := jV H
      go_enter Try.func53, Try.ntmps53
      go_wp2_with (first | ((with_reducible refine jL (f := 57) rfl ?_); refine goesL_ (some 8) rfl rfl Try.func57 zr rfl #[.slice A0 l0.length c0, .int .i64 a1] rfl zm ?_; (with_reducible refine (impl_triesOf.calls k _ _ l0 a1 t139 _ ?side1 ?side2 A3.out).mono ?_); (case side1 => repeat (first | exact HR0.out | (with_reducible refine jP ?_ _) | (with_reducible refine jO ?_ _) | (with_reducible refine jU ?_))); (case side2 => exact HC0.out); rintro e w15 ⟨v140, rfl, ho0, hb⟩; refine ⟨_, rfl, ?_⟩; have n0_ := jA (jZ ho0 (jT (zb0 HB))); have n1_ := jA (jM (zb0 HB) hb); clear HB; have HO141 := n0_; have HB := n1_; clear n0_ n1_; (try clear hb); (try clear hb2); (try clear hk); (try clear hi); (try clear ho0); obtain ⟨Ao16, co16, eo16⟩ := Kd.R_slice HO141.out; subst eo16; have p142 : 0 ≤ ((ji7) : Int) := jC za; have q142 : (ji7) < (t139.length : Int) := jC za; obtain ⟨ad142, e142, hx142_0, hx142_1, hx142_2⟩ := at_T36 (jH HO141.out).2.2 (ji7) p142 q142; (try rw [← Nbq10.out] at hx142_2); cases e142; replace p142 := eq_true p142; replace q142 := eq_true q142))
      go_ret
      exact ⟨by first | rfl | (simp [errW_none, errW_some] <;> rfl) | (simp only [← hji7]; first | rfl | (simp [errW_none, errW_some] <;> rfl)) | (simp [*, errW_none, errW_some] <;> rfl), zb0 HB⟩
     ·rw [if_neg c14] at H
      have c14b0 : ((t139.length : Int) == 3) = false := beq_eq_false_iff_ne.mpr c14
      have c14b1 : ((t139.length : Int) != 3) = true := bne_iff_ne.mpr c14
      obtain rfl := jV H
      go_enter Try.func53, Try.ntmps53
      go_wp2_with (first | ((with_reducible refine jL (f := 57) rfl ?_); refine goesL_ (some 8) rfl rfl Try.func57 zr rfl #[.slice A0 l0.length c0, .int .i64 a1] rfl zm ?_; (with_reducible refine (impl_triesOf.calls k _ _ l0 a1 t139 _ ?side1 ?side2 A3.out).mono ?_); (case side1 => repeat (first | exact HR0.out | (with_reducible refine jP ?_ _) | (with_reducible refine jO ?_ _) | (with_reducible refine jU ?_))); (case side2 => exact HC0.out); rintro e w17 ⟨v140, rfl, ho0, hb⟩; refine ⟨_, rfl, ?_⟩; have n0_ := jA (jZ ho0 (jT (zb0 HB))); have n1_ := jA (jM (zb0 HB) hb); clear HB; have HO141 := n0_; have HB := n1_; clear n0_ n1_; (try clear hb); (try clear hb2); (try clear hk); (try clear hi); (try clear ho0); obtain ⟨Ao18, co18, eo18⟩ := Kd.R_slice HO141.out; subst eo18; have p142 : 0 ≤ ((ji7) : Int) := jC za; have q142 : (ji7) < (t139.length : Int) := jC za; obtain ⟨ad142, e142, hx142_0, hx142_1, hx142_2⟩ := at_T36 (jH HO141.out).2.2 (ji7) p142 q142; (try rw [← Nbq10.out] at hx142_2); cases e142; replace p142 := eq_true p142; replace q142 := eq_true q142))
      go_ret
      exact ⟨by first | rfl | (simp [errW_none, errW_some] <;> rfl) | (simp only [← hji7]; first | rfl | (simp [errW_none, errW_some] <;> rfl)) | (simp [*, errW_none, errW_some] <;> rfl), zb0 HB⟩
   ·rw [if_neg c9] at H
    exact absurd H (by simp)
  ·rw [if_neg c8] at H
   exact absurd H (by simp)

/-! ### impl_nextTick: function 54 -/
def impl_nextTick.f (k : Nat) (l0 : List (S36)) (a1 : Int) : Option (Int) := if (l0.length : Int) > 0 then (if 0 ≤ (wrap64 ((l0.length : Int) - 1)) then (if (wrap64 ((l0.length : Int) - 1)) < (l0.length : Int) then ((impl_triesOf.f k l0 a1).bind fun t144 => (if (t144.length : Int) > 0 then (if 0 ≤ (wrap64 ((t144.length : Int) - 1)) then (if (wrap64 ((t144.length : Int) - 1)) < (t144.length : Int) then (some (mx ((rd_T36 l0 (wrap64 ((l0.length : Int) - 1))).f1) (wrap64 (((rd_T36 t144 (wrap64 ((t144.length : Int) - 1))).f1) + 50)))) else (none)) else (none)) else (some ((rd_T36 l0 (wrap64 ((l0.length : Int) - 1))).f1)))) else (none)) else (none)) else ((impl_triesOf.f k l0 a1).bind fun t148 => (if (t148.length : Int) > 0 then (if 0 ≤ (wrap64 ((t148.length : Int) - 1)) then (if (wrap64 ((t148.length : Int) - 1)) < (t148.length : Int) then (some (mx 0 (wrap64 (((rd_T36 t148 (wrap64 ((t148.length : Int) - 1))).f1) + 50)))) else (none)) else (none)) else (some 0)))
theorem impl_nextTick.mono : ∀ a0 a1 k, LeO (impl_nextTick.f k a0 a1) (impl_nextTick.f (k + 1) a0 a1) := by
 intro a0 a1 k
 unfold impl_nextTick.f
 repeat' first
   | (with_reducible exact impl_triesOf.mono _ _ _)
   | (with_reducible exact LeO.refl _)
   | (with_reducible exact LeO.none _)
   | (with_reducible refine LeO.ite ?_ ?_)
   | (with_reducible refine LeO.bind ?_ (fun _ => ?_))
   | exact impl_triesOf.mono _ _ _
   | exact LeO.none _
   | refine LeO.ite ?_ ?_
   | refine LeO.bind ?_ (fun _ => ?_)
set_option maxHeartbeats 8000000 in
set_option maxRecDepth 100000 in
theorem impl_nextTick.calls (k : Nat) (A0 : Option Addr) (c0 : Nat) (l0 : List (S36)) (a1 : Int) (r : Int) (w : World) (hr0 : Kd.C k36 w A0 l0.length l0) (hc0 : l0.length ≤ c0) (h : impl_nextTick.f k l0 a1 = some r) :
  Calls Try.prog 54 #[.slice A0 l0.length c0, .int .i64 a1] w fun e w' => e = .returned (.int .i64 r) ∧ Below w.heap.size w w' := by
 have HR0 := jA hr0
 have HC0 := jA hc0
 clear hr0 hc0
 have HB := jA (Below.refl w.heap.size w)
 have H : (if (l0.length : Int) > 0 then (if 0 ≤ (wrap64 ((l0.length : Int) - 1)) then (if (wrap64 ((l0.length : Int) - 1)) < (l0.length : Int) then ((impl_triesOf.f k l0 a1).bind fun t144 => (if (t144.length : Int) > 0 then (if 0 ≤ (wrap64 ((t144.length : Int) - 1)) then (if (wrap64 ((t144.length : Int) - 1)) < (t144.length : Int) then (some (mx ((rd_T36 l0 (wrap64 ((l0.length : Int) - 1))).f1) (wrap64 (((rd_T36 t144 (wrap64 ((t144.length : Int) - 1))).f1) + 50)))) else (none)) else (none)) else (some ((rd_T36 l0 (wrap64 ((l0.length : Int) - 1))).f1)))) else (none)) else (none)) else ((impl_triesOf.f k l0 a1).bind fun t148 => (if (t148.length : Int) > 0 then (if 0 ≤ (wrap64 ((t148.length : Int) - 1)) then (if (wrap64 ((t148.length : Int) - 1)) < (t148.length : Int) then (some (mx 0 (wrap64 (((rd_T36 t148 (wrap64 ((t148.length : Int) - 1))).f1) + 50)))) else (none)) else (none)) else (some 0)))) = some r := h
 clear h
 by_cases c3 : (l0.length : Int) > 0
 ·rw [if_pos c3] at H
  have c3b0 : decide (0 < (l0.length : Int)) = true := jN c3
  have c3b1 : decide (0 < l0.length) = true := jN (by omega)
  clear c3
  obtain ⟨ji4, hji4⟩ : ∃ j_ : Int, (wrap64 ((l0.length : Int) - 1)) = j_ := ⟨_, rfl⟩
  replace H : (if 0 ≤ (ji4) then (if (ji4) < (l0.length : Int) then ((impl_triesOf.f k l0 a1).bind fun t144 => (if (t144.length : Int) > 0 then (if 0 ≤ (wrap64 ((t144.length : Int) - 1)) then (if (wrap64 ((t144.length : Int) - 1)) < (t144.length : Int) then (some (mx ((rd_T36 l0 (ji4)).f1) (wrap64 (((rd_T36 t144 (wrap64 ((t144.length : Int) - 1))).f1) + 50)))) else (none)) else (none)) else (some ((rd_T36 l0 (ji4)).f1)))) else (none)) else (none)) = some r := by first | (rw [hji4] at H; exact H) | (simp only [hji4] at H ⊢; exact H)
  have hji4w : (IntKind.i64.wrap ((l0.length : Int) - 1)) = ji4 := (i64_w _).trans hji4
  by_cases c5 : 0 ≤ (ji4)
  ·rw [if_pos c5] at H
   have c5b0 : decide (0 ≤ (ji4)) = true := jN c5
   clear c5
   by_cases c6 : (ji4) < (l0.length : Int)
   ·rw [if_pos c6] at H
    have c6b0 : decide ((ji4) < (l0.length : Int)) = true := jN c6
    clear c6
    replace H := jD.mp H
    obtain ⟨t144, A70, H⟩ := H
    replace H : (if (t144.length : Int) > 0 then (if 0 ≤ (wrap64 ((t144.length : Int) - 1)) then (if (wrap64 ((t144.length : Int) - 1)) < (t144.length : Int) then (some (mx ((rd_T36 l0 (ji4)).f1) (wrap64 (((rd_T36 t144 (wrap64 ((t144.length : Int) - 1))).f1) + 50)))) else (none)) else (none)) else (some ((rd_T36 l0 (ji4)).f1))) = some r := H
    have A7 := jA A70
    clear A70
    by_cases c8 : (t144.length : Int) > 0
    ·rw [if_pos c8] at H
     have c8b0 : decide (0 < (t144.length : Int)) = true := jN c8
     have c8b1 : decide (0 < t144.length) = true := jN (by omega)
     clear c8
     obtain ⟨ji9, hji9⟩ : ∃ j_ : Int, (wrap64 ((t144.length : Int) - 1)) = j_ := ⟨_, rfl⟩
     replace H : (if 0 ≤ (ji9) then (if (ji9) < (t144.length : Int) then (some (mx ((rd_T36 l0 (ji4)).f1) (wrap64 (((rd_T36 t144 (ji9)).f1) + 50)))) else (none)) else (none)) = some r := by first | (rw [hji9] at H; exact H) | (simp only [hji9] at H ⊢; exact H)
     (try rw [hji9] at A7)
     have hji9w : (IntKind.i64.wrap ((t144.length : Int) - 1)) = ji9 := (i64_w _).trans hji9
     by_cases c10 : 0 ≤ (ji9)
     ·rw [if_pos c10] at H
      have c10b0 : decide (0 ≤ (ji9)) = true := jN c10
      clear c10
      by_cases c11 : (ji9) < (t144.length : Int)
      ·rw [if_pos c11] at H
       have c11b0 : decide ((ji9) < (t144.length : Int)) = true := jN c11
       clear c11
       obtain ⟨ji12, hji12⟩ : ∃ j_ : Int, (mx ((rd_T36 l0 (ji4)).f1) (wrap64 (((rd_T36 t144 (ji9)).f1) + 50))) = j_ := ⟨_, rfl⟩
       replace H : (some ji12) = some r := by first | (rw [hji12] at H; exact H) | (simp only [hji12] at H ⊢; exact H)
       (try rw [hji12] at A7)
       have hji12_ : (if ((rd_T36 l0 (ji4)).f1) < (wrap64 (((rd_T36 t144 (ji9)).f1) + 50)) then (wrap64 (((rd_T36 t144 (ji9)).f1) + 50)) else ((rd_T36 l0 (ji4)).f1)) = ji12 := hji12
       obtain rfl := jV H
       have p143 : 0 ≤ ((ji4) : Int) := jC za
       have q143 : (ji4) < (l0.length : Int) := jC za
       obtain ⟨ad143, e143, hx143_0, hx143_1, hx143_2⟩ := at_T36 HR0.out (ji4) p143 q143
       cases e143
       replace p143 := eq_true p143
       replace q143 := eq_true q143
       go_enter Try.func54, Try.ntmps54
       go_wp2_with (first | ((with_reducible refine jL (f := 57) rfl ?_); refine goesL_ (some 19) rfl rfl Try.func57 zr rfl #[.slice (some ad143) l0.length c0, .int .i64 a1] rfl zm ?_; (with_reducible refine (impl_triesOf.calls k _ _ l0 a1 t144 _ ?side1 ?side2 A7.out).mono ?_); (case side1 => repeat (first | exact HR0.out | (with_reducible refine jP ?_ _) | (with_reducible refine jO ?_ _) | (with_reducible refine jU ?_))); (case side2 => exact HC0.out); rintro e w13 ⟨v145, rfl, ho0, hb⟩; refine ⟨_, rfl, ?_⟩; have n0_ := jA (jZ ho0 (jT (zb0 HB))); have n1_ := jA (jM (zb0 HB) hb); clear HB; have HO146 := n0_; have HB := n1_; clear n0_ n1_; (try clear hb); (try clear hb2); (try clear hk); (try clear hi); (try clear ho0); obtain ⟨Ao14, co14, eo14⟩ := Kd.R_slice HO146.out; subst eo14; have p147 : 0 ≤ ((ji9) : Int) := jC za; have q147 : (ji9) < (t144.length : Int) := jC za; obtain ⟨ad147, e147, hx147_0, hx147_1, hx147_2⟩ := at_T36 (jH HO146.out).2.2 (ji9) p147 q147; cases e147; replace p147 := eq_true p147; replace q147 := eq_true q147))
       go_ret
       exact ⟨by first | rfl | (simp [errW_none, errW_some] <;> rfl) | (simp only [← hji4, ← hji9, ← hji12]; first | rfl | (simp [errW_none, errW_some] <;> rfl)) | (simp [*, errW_none, errW_some] <;> rfl), zb0 HB⟩
      ·rw [if_neg c11] at H
       exact absurd H (by simp)
     ·rw [if_neg c10] at H
      exact absurd H (by simp)
    ·rw [if_neg c8] at H
     have c8b0 : decide (0 < (t144.length : Int)) = false := jd c8
     have c8b1 : decide (0 < t144.length) = false := jd (by omega)
     clear c8
     obtain rfl := jV H
     have p143 : 0 ≤ ((ji4) : Int) := jC za
     have q143 : (ji4) < (l0.length : Int) := jC za
     obtain ⟨ad143, e143, hx143_0, hx143_1, hx143_2⟩ := at_T36 HR0.out (ji4) p143 q143
     cases e143
     replace p143 := eq_true p143
     replace q143 := eq_true q143
     go_enter Try.func54, Try.ntmps54
     go_wp2_with (first | ((with_reducible refine jL (f := 57) rfl ?_); refine goesL_ (some 19) rfl rfl Try.func57 zr rfl #[.slice (some ad143) l0.length c0, .int .i64 a1] rfl zm ?_; (with_reducible refine (impl_triesOf.calls k _ _ l0 a1 t144 _ ?side1 ?side2 A7.out).mono ?_); (case side1 => repeat (first | exact HR0.out | (with_reducible refine jP ?_ _) | (with_reducible refine jO ?_ _) | (with_reducible refine jU ?_))); (case side2 => exact HC0.out); rintro e w15 ⟨v145, rfl, ho0, hb⟩; refine ⟨_, rfl, ?_⟩; have n0_ := jA (jZ ho0 (jT (zb0 HB))); have n1_ := jA (jM (zb0 HB) hb); clear HB; have HO146 := n0_; have HB := n1_; clear n0_ n1_; (try clear hb); (try clear hb2); (try clear hk); (try clear hi); (try clear ho0); obtain ⟨Ao16, co16, eo16⟩ := Kd.R_slice HO146.out; subst eo16))
     go_ret
     exact ⟨by first | rfl | (simp [errW_none, errW_some] <;> rfl) | (simp only [← hji4]; first | rfl | (simp [errW_none, errW_some] <;> rfl)) | (simp [*, errW_none, errW_some] <;> rfl), zb0 HB⟩
   ·rw [if_neg c6] at H
    exact absurd H (by simp)
  ·rw [if_neg c5] at H
   exact absurd H (by simp)
 ·rw [if_neg c3] at H
  have c3b0 : decide (0 < (l0.length : Int)) = false := jd c3
  have c3b1 : decide (0 < l0.length) = false := jd (by omega)
  clear c3
  replace H := jD.mp H
  obtain ⟨t148, A170, H⟩ := H
  replace H : (if (t148.length : Int) > 0 then (if 0 ≤ (wrap64 ((t148.length : Int) - 1)) then (if (wrap64 ((t148.length : Int) - 1)) < (t148.length : Int) then (some (mx 0 (wrap64 (((rd_T36 t148 (wrap64 ((t148.length : Int) - 1))).f1) + 50)))) else (none)) else (none)) else (some 0)) = some r := H
  have A17 := jA A170
  clear A170
  by_cases c18 : (t148.length : Int) > 0
  ·rw [if_pos c18] at H
   have c18b0 : decide (0 < (t148.length : Int)) = true := jN c18
   have c18b1 : decide (0 < t148.length) = true := jN (by omega)
   clear c18
   obtain ⟨ji19, hji19⟩ : ∃ j_ : Int, (wrap64 ((t148.length : Int) - 1)) = j_ := ⟨_, rfl⟩
   replace H : (if 0 ≤ (ji19) then (if (ji19) < (t148.length : Int) then (some (mx 0 (wrap64 (((rd_T36 t148 (ji19)).f1) + 50)))) else (none)) else (none)) = some r := by first | (rw [hji19] at H; exact H) | (simp only [hji19] at H ⊢; exact H)
   (try rw [hji19] at A17)
   have hji19w : (IntKind.i64.wrap ((t148.length : Int) - 1)) = ji19 := (i64_w _).trans hji19
   by_cases c20 : 0 ≤ (ji19)
   ·rw [if_pos c20] at H
    have c20b0 : decide (0 ≤ (ji19)) = true := jN c20
    clear c20
    by_cases c21 : (ji19) < (t148.length : Int)
    ·rw [if_pos c21] at H
     have c21b0 : decide ((ji19) < (t148.length : Int)) = true := jN c21
     clear c21
     obtain ⟨ji22, hji22⟩ : ∃ j_ : Int, (mx 0 (wrap64 (((rd_T36 t148 (ji19)).f1) + 50))) = j_ := ⟨_, rfl⟩
     replace H : (some ji22) = some r := by first | (rw [hji22] at H; exact H) | (simp only [hji22] at H ⊢; exact H)
     (try rw [hji22] at A17)
     have hji22_ : (if 0 < (wrap64 (((rd_T36 t148 (ji19)).f1) + 50)) then (wrap64 (((rd_T36 t148 (ji19)).f1) + 50)) else 0) = ji22 := hji22
     obtain rfl := jV H
     go_enter Try.func54, Try.ntmps54
     go_wp2_with (first | ((with_reducible refine jL (f := 57) rfl ?_); refine goesL_ (some 19) rfl rfl Try.func57 zr rfl #[.slice A0 l0.length c0, .int .i64 a1] rfl zm ?_; (with_reducible refine (impl_triesOf.calls k _ _ l0 a1 t148 _ ?side1 ?side2 A17.out).mono ?_); (case side1 => repeat (first | exact HR0.out | (with_reducible refine jP ?_ _) | (with_reducible refine jO ?_ _) | (with_reducible refine jU ?_))); (case side2 => exact HC0.out); rintro e w23 ⟨v149, rfl, ho0, hb⟩; refine ⟨_, rfl, ?_⟩; have n0_ := jA (jZ ho0 (jT (zb0 HB))); have n1_ := jA (jM (zb0 HB) hb); clear HB; have HO150 := n0_; have HB := n1_; clear n0_ n1_; (try clear hb); (try clear hb2); (try clear hk); (try clear hi); (try clear ho0); obtain ⟨Ao24, co24, eo24⟩ := Kd.R_slice HO150.out; subst eo24; have p151 : 0 ≤ ((ji19) : Int) := jC za; have q151 : (ji19) < (t148.length : Int) := jC za; obtain ⟨ad151, e151, hx151_0, hx151_1, hx151_2⟩ := at_T36 (jH HO150.out).2.2 (ji19) p151 q151; cases e151; replace p151 := eq_true p151; replace q151 := eq_true q151))
     go_ret
     exact ⟨by first | rfl | (simp [errW_none, errW_some] <;> rfl) | (simp only [← hji19, ← hji22]; first | rfl | (simp [errW_none, errW_some] <;> rfl)) | (simp [*, errW_none, errW_some] <;> rfl), zb0 HB⟩
    ·rw [if_neg c21] at H
     exact absurd H (by simp)
   ·rw [if_neg c20] at H
    exact absurd H (by simp)
  ·rw [if_neg c18] at H
   have c18b0 : decide (0 < (t148.length : Int)) = false := jd c18
   have c18b1 : decide (0 < t148.length) = false := jd (by omega)
   clear c18
   obtain rfl := jV H
   go_enter Try.func54, Try.ntmps54
   go_wp2_with (first | ((with_reducible refine jL (f := 57) rfl ?_); refine goesL_ (some 19) rfl rfl Try.func57 zr rfl #[.slice A0 l0.length c0, .int .i64 a1] rfl zm ?_; (with_reducible refine (impl_triesOf.calls k _ _ l0 a1 t148 _ ?side1 ?side2 A17.out).mono ?_); (case side1 => repeat (first | exact HR0.out | (with_reducible refine jP ?_ _) | (with_reducible refine jO ?_ _) | (with_reducible refine jU ?_))); (case side2 => exact HC0.out); rintro e w25 ⟨v149, rfl, ho0, hb⟩; refine ⟨_, rfl, ?_⟩; have n0_ := jA (jZ ho0 (jT (zb0 HB))); have n1_ := jA (jM (zb0 HB) hb); clear HB; have HO150 := n0_; have HB := n1_; clear n0_ n1_; (try clear hb); (try clear hb2); (try clear hk); (try clear hi); (try clear ho0); obtain ⟨Ao26, co26, eo26⟩ := Kd.R_slice HO150.out; subst eo26))
   go_ret
   exact ⟨by first | rfl | (simp [errW_none, errW_some] <;> rfl) | (simp [*, errW_none, errW_some] <;> rfl), zb0 HB⟩

end Go.Proofs.Ythnpffomoaeeoaa.PFnCueStates
