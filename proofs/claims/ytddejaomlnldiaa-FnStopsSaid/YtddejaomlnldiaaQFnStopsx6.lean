/- Functions and contracts that FnStops reaches (7 of 14). -/
import Derived.Test.YtddejaomlnldiaaQFnStopsx5
namespace Go.Proofs.Ytddejaomlnldiaa.PFnStops
open Go.RowKit Go.Proofs.YtddejaomlnldiaaW.PrintWords Go.Proofs.YtddejaomlnldiaaW.PrintLast Go.Proofs.YtddejaomlnldiaaW.PrintMore
attribute [local go_sem] max2_int min2_int max_two min_two max_three min_three max_four min_four   -- for this text's walks alone
set_option linter.unusedVariables false
set_option linter.unusedSimpArgs false

/-! ### impl_allWithin: function 87 -/
def impl_allWithin.l0 : Nat → Int → Int → List Int → Int → Int → Option (Bool)
 | 0, _, _, _, _, _ => none
 | k + 1, x1, x2, x9, x10, x11 => if x11 < x10 then (if 0 ≤ x11 then (if x11 < (x9.length : Int) then ((impl_within.f (rd x9 x11) x1 x2).bind fun t202 => (if t202 = true then (impl_allWithin.l0 k x1 x2 x9 x10 (wrap64 (x11 + 1))) else (some false))) else (none)) else (none)) else (some true)
def impl_allWithin.f (k : Nat) (l0 : List Int) (a1 : Int) (a2 : Int) : Option (Bool) := impl_allWithin.l0 k a1 a2 l0 (l0.length : Int) 0
theorem impl_allWithin.mono_l : ∀ k, (∀ y0 y1 y2 y3 y4, LeO (impl_allWithin.l0 k y0 y1 y2 y3 y4) (impl_allWithin.l0 (k + 1) y0 y1 y2 y3 y4))
 | 0 => fun _ _ _ _ _ r h => by simp [impl_allWithin.l0] at h
 | k + 1 => by
  have ih0 := impl_allWithin.mono_l k
  ·intro y0 y1 y2 y3 y4
   unfold impl_allWithin.l0
   repeat' first
   | (with_reducible exact ih0 _ _ _ _ _)
   | (with_reducible exact LeO.refl _)
   | (with_reducible exact LeO.none _)
   | (with_reducible refine LeO.ite ?_ ?_)
   | (with_reducible refine LeO.bind ?_ (fun _ => ?_))
   | exact ih0 _ _ _ _ _
   | exact LeO.none _
   | refine LeO.ite ?_ ?_
   | refine LeO.bind ?_ (fun _ => ?_)
theorem impl_allWithin.mono : ∀ a0 a1 a2 k, LeO (impl_allWithin.f k a0 a1 a2) (impl_allWithin.f (k + 1) a0 a1 a2) := by
 intro a0 a1 a2 k
 have ih0 := impl_allWithin.mono_l k
 unfold impl_allWithin.f
 repeat' first
   | (with_reducible exact ih0 _ _ _ _ _)
   | (with_reducible exact LeO.refl _)
   | (with_reducible exact LeO.none _)
   | (with_reducible refine LeO.ite ?_ ?_)
   | (with_reducible refine LeO.bind ?_ (fun _ => ?_))
   | exact ih0 _ _ _ _ _
   | exact LeO.none _
   | refine LeO.ite ?_ ?_
   | refine LeO.bind ?_ (fun _ => ?_)
set_option maxHeartbeats 8000000 in
set_option maxRecDepth 100000 in
theorem impl_allWithin.calls (k : Nat) (A0 : Option Addr) (c0 : Nat) (l0 : List Int) (a1 : Int) (a2 : Int) (r : Bool) (w : World) (hr0 : Kd.C (Kd.int .i64) w A0 l0.length l0) (hc0 : l0.length ≤ c0) (h : impl_allWithin.f k l0 a1 a2 = some r) :
  Calls Try.prog 87 #[.slice A0 l0.length c0, .int .i64 a1, .int .i64 a2] w fun e w' => e = .returned (.bool r) ∧ Drawn0 w w' := by
 have HR0 := jA hr0
 have HC0 := jA hc0
 clear hr0 hc0
 have H : (impl_allWithin.l0 k a1 a2 l0 (l0.length : Int) 0) = some r := h
 clear h
 have H' := jA H
 clear H
 go_enter Try.func87, Try.ntmps87
 go_wp2
 go_loopg [11] k (fun kq v11 w' => ∃ (x11_1 : Int), v11 = .int .i64 x11_1 ∧ Aside0 (impl_allWithin.l0 kq a1 a2 l0 (l0.length : Int) x11_1 = some r) ∧ Aside0 (kq ≤ k) ∧ Drawn0 w w')
 case atStart => exact ⟨(0), zz, H', ⟨Nat.le_refl _⟩, by repeat (first | exact Drawn0.refl _ | apply Drawn0.step)⟩
 case round =>
  clear H'
  try clear p2
  obtain ⟨x11_1, rfl, HA, HK1, ⟨m1, rfl⟩⟩ := hrel
  cases gk with
  | zero => exact absurd HA.out (by simp [impl_allWithin.l0])
  | succ k1 =>
   have H := HA.out
   clear HA
   simp only [impl_allWithin.l0] at H
   by_cases c4 : x11_1 < (l0.length : Int)
   ·rw [if_pos c4] at H
    have c4b0 : decide (x11_1 < (l0.length : Int)) = true := jP c4
    clear c4
    by_cases c5 : 0 ≤ x11_1
    ·rw [if_pos c5] at H
     have c5b0 : decide (0 ≤ x11_1) = true := jP c5
     clear c5
     by_cases c6 : x11_1 < (l0.length : Int)
     ·rw [if_pos c6] at H
      have c6b0 : decide (x11_1 < (l0.length : Int)) = true := jP c6
      clear c6
      replace H := jD.mp H
      obtain ⟨t202, A70, H⟩ := H
      replace H : (if t202 = true then (impl_allWithin.l0 k1 a1 a2 l0 (l0.length : Int) (wrap64 (x11_1 + 1))) else (some false)) = some r := H
      have A7 := jA A70
      clear A70
      by_cases c8 : t202 = true
      ·subst c8
       have H1 : (impl_allWithin.l0 k1 a1 a2 l0 (l0.length : Int) (wrap64 (x11_1 + 1))) = some r := by rw [if_pos rfl] at H; exact H
       clear H
       have H := H1
       clear H1
       have H' := jA H
       clear H
       have p201 : 0 ≤ (x11_1 : Int) := jB za
       have q201 : x11_1 < (l0.length : Int) := jB za
       obtain ⟨ad201, e201, hx201_0⟩ := jh HR0.out x11_1 p201 q201
       cases e201
       replace p201 := eq_true p201
       replace q201 := eq_true q201
       go_wp2_with (first | ((with_reducible refine jN (f := 61) rfl ?_); refine goesL_ (some 18) rfl rfl Try.func61 zr rfl #[.int .i64 (rd l0 x11_1), .int .i64 a1, .int .i64 a2] rfl zm ?_; (with_reducible refine (impl_within.calls (rd l0 x11_1) a1 a2 true _ A7.out).mono ?_); rintro e w' ⟨rfl, ⟨nd, rfl⟩⟩; refine ⟨_, rfl, ?_⟩))
       go_roundg k1
       case measure => have := HK1.out; omega
       case rel => exact ⟨(wrap64 (x11_1 + 1)), zz, H', ⟨by have := HK1.out; omega⟩, by repeat (first | exact Drawn0.refl _ | apply Drawn0.step)⟩
      ·replace c8 := Bool.eq_false_iff.mpr c8
       subst c8
       have H1 : (some false) = some r := by rw [if_neg (show ¬ (false = true) by decide)] at H; exact H
       clear H
       have H := H1
       clear H1
       obtain rfl := jW H
       have p201 : 0 ≤ (x11_1 : Int) := jB za
       have q201 : x11_1 < (l0.length : Int) := jB za
       obtain ⟨ad201, e201, hx201_0⟩ := jh HR0.out x11_1 p201 q201
       cases e201
       replace p201 := eq_true p201
       replace q201 := eq_true q201
       go_wp2_with (first | ((with_reducible refine jN (f := 61) rfl ?_); refine goesL_ (some 18) rfl rfl Try.func61 zr rfl #[.int .i64 (rd l0 x11_1), .int .i64 a1, .int .i64 a2] rfl zm ?_; (with_reducible refine (impl_within.calls (rd l0 x11_1) a1 a2 false _ A7.out).mono ?_); rintro e w' ⟨rfl, ⟨nd, rfl⟩⟩; refine ⟨_, rfl, ?_⟩))
       go_ret
       exact ⟨by first | rfl | (simp; done) | (simp [*]; done), by repeat (first | exact Drawn0.refl _ | apply Drawn0.step)⟩
     ·rw [if_neg c6] at H
      exact absurd H (by simp)
    ·rw [if_neg c5] at H
     exact absurd H (by simp)
   ·rw [if_neg c4] at H
    have c4b0 : decide (x11_1 < (l0.length : Int)) = false := ja c4
    clear c4
    obtain rfl := jW H
    go_wp2
    go_ret
    exact ⟨by first | rfl | (simp; done) | (simp [*]; done), by repeat (first | exact Drawn0.refl _ | apply Drawn0.step)⟩

/-! ### impl_stopsAsked: function 74 -/
def impl_stopsAsked.f (k : Nat) (l0 : List (S63)) (a1 : Int) (l2 : List (S59)) (a3 : Int) (a4 : Int) (l5 : List Int) : Option (Int) := (impl_AreWires.f k l0 a1 l2).bind fun t203 => (if t203 = true then ((impl_isHop.f a3).bind fun t204 => (if t204 = true then ((impl_isTick.f a4).bind fun t205 => (if t205 = true then (if (l5.length : Int) = a1 then ((impl_allWithin.f k l5 (-1) 100000).bind fun t206 => (if t206 = true then (some 0) else (some 2))) else (some 2)) else (some 2))) else (some 2))) else (some 1))
theorem impl_stopsAsked.mono : ∀ a0 a1 a2 a3 a4 a5 k, LeO (impl_stopsAsked.f k a0 a1 a2 a3 a4 a5) (impl_stopsAsked.f (k + 1) a0 a1 a2 a3 a4 a5) := by
 intro a0 a1 a2 a3 a4 a5 k
 unfold impl_stopsAsked.f
 repeat' first
   | (with_reducible exact impl_AreWires.mono _ _ _ _)
   | (with_reducible exact impl_allWithin.mono _ _ _ _)
   | (with_reducible exact LeO.refl _)
   | (with_reducible exact LeO.none _)
   | (with_reducible refine LeO.ite ?_ ?_)
   | (with_reducible refine LeO.bind ?_ (fun _ => ?_))
   | exact impl_AreWires.mono _ _ _ _
   | exact impl_allWithin.mono _ _ _ _
   | exact LeO.none _
   | refine LeO.ite ?_ ?_
   | refine LeO.bind ?_ (fun _ => ?_)
set_option maxHeartbeats 8000000 in
set_option maxRecDepth 100000 in
theorem impl_stopsAsked.calls (k : Nat) (A0 : Option Addr) (c0 : Nat) (l0 : List (S63)) (a1 : Int) (A2 : Option Addr) (c2 : Nat) (l2 : List (S59)) (a3 : Int) (a4 : Int) (A5 : Option Addr) (c5 : Nat) (l5 : List Int) (r : Int) (w : World) (hr0 : Kd.C k63 w A0 l0.length l0) (hc0 : l0.length ≤ c0) (hr2 : Kd.C k59 w A2 l2.length l2) (hc2 : l2.length ≤ c2) (hr5 : Kd.C (Kd.int .i64) w A5 l5.length l5) (hc5 : l5.length ≤ c5) (h : impl_stopsAsked.f k l0 a1 l2 a3 a4 l5 = some r) :
  Calls Try.prog 74 #[.slice A0 l0.length c0, .int .i64 a1, .slice A2 l2.length c2, .int .i64 a3, .int .i64 a4, .slice A5 l5.length c5] w fun e w' => e = .returned (.int .i64 r) ∧ Below w.heap.size w w' := by
 have HR0 := jA hr0
 have HC0 := jA hc0
 clear hr0 hc0
 have HR2 := jA hr2
 have HC2 := jA hc2
 clear hr2 hc2
 have HR5 := jA hr5
 have HC5 := jA hc5
 clear hr5 hc5
 have HB := jA (Below.refl w.heap.size w)
 have H : ((impl_AreWires.f k l0 a1 l2).bind fun t203 => (if t203 = true then ((impl_isHop.f a3).bind fun t204 => (if t204 = true then ((impl_isTick.f a4).bind fun t205 => (if t205 = true then (if (l5.length : Int) = a1 then ((impl_allWithin.f k l5 (-1) 100000).bind fun t206 => (if t206 = true then (some 0) else (some 2))) else (some 2)) else (some 2))) else (some 2))) else (some 1))) = some r := h
 clear h
 replace H := jD.mp H
 obtain ⟨t203, A70, H⟩ := H
 replace H : (if t203 = true then ((impl_isHop.f a3).bind fun t204 => (if t204 = true then ((impl_isTick.f a4).bind fun t205 => (if t205 = true then (if (l5.length : Int) = a1 then ((impl_allWithin.f k l5 (-1) 100000).bind fun t206 => (if t206 = true then (some 0) else (some 2))) else (some 2)) else (some 2))) else (some 2))) else (some 1)) = some r := H
 have A7 := jA A70
 clear A70
 by_cases c8 : t203 = true
 ·subst c8
  have H1 : ((impl_isHop.f a3).bind fun t204 => (if t204 = true then ((impl_isTick.f a4).bind fun t205 => (if t205 = true then (if (l5.length : Int) = a1 then ((impl_allWithin.f k l5 (-1) 100000).bind fun t206 => (if t206 = true then (some 0) else (some 2))) else (some 2)) else (some 2))) else (some 2))) = some r := by rw [if_pos rfl] at H; exact H
  clear H
  have H := H1
  clear H1
  replace H := jD.mp H
  obtain ⟨t204, A90, H⟩ := H
  replace H : (if t204 = true then ((impl_isTick.f a4).bind fun t205 => (if t205 = true then (if (l5.length : Int) = a1 then ((impl_allWithin.f k l5 (-1) 100000).bind fun t206 => (if t206 = true then (some 0) else (some 2))) else (some 2)) else (some 2))) else (some 2)) = some r := H
  have A9 := jA A90
  clear A90
  by_cases c10 : t204 = true
  ·subst c10
   have H1 : ((impl_isTick.f a4).bind fun t205 => (if t205 = true then (if (l5.length : Int) = a1 then ((impl_allWithin.f k l5 (-1) 100000).bind fun t206 => (if t206 = true then (some 0) else (some 2))) else (some 2)) else (some 2))) = some r := by rw [if_pos rfl] at H; exact H
   clear H
   have H := H1
   clear H1
   replace H := jD.mp H
   obtain ⟨t205, A110, H⟩ := H
   replace H : (if t205 = true then (if (l5.length : Int) = a1 then ((impl_allWithin.f k l5 (-1) 100000).bind fun t206 => (if t206 = true then (some 0) else (some 2))) else (some 2)) else (some 2)) = some r := H
   have A11 := jA A110
   clear A110
   by_cases c12 : t205 = true
   ·subst c12
    have H1 : (if (l5.length : Int) = a1 then ((impl_allWithin.f k l5 (-1) 100000).bind fun t206 => (if t206 = true then (some 0) else (some 2))) else (some 2)) = some r := by rw [if_pos rfl] at H; exact H
    clear H
    have H := H1
    clear H1
    by_cases c13 : (l5.length : Int) = a1
    ·rw [if_pos c13] at H
     have c13b0 : ((l5.length : Int) == a1) = true := beq_iff_eq.mpr c13
     have c13b1 : ((l5.length : Int) != a1) = false := bne_eq_false_iff_eq.mpr c13
     clear c13
     replace H := jD.mp H
     obtain ⟨t206, A140, H⟩ := H
     replace H : (if t206 = true then (some 0) else (some 2)) = some r := H
     have A14 := jA A140
     clear A140
     by_cases c15 : t206 = true
     ·subst c15
      have H1 : (some 0) = some r := by rw [if_pos rfl] at H; exact H
      clear H
      have H := H1
      clear H1
      obtain rfl := jW H
      go_enter Try.func74, Try.ntmps74
      go_wp2_with (first | ((with_reducible refine jN (f := 86) rfl ?_); refine goesL_ (some 16) rfl rfl Try.func86 zr rfl #[.slice A0 l0.length c0, .int .i64 a1, .slice A2 l2.length c2] rfl zm ?_; (with_reducible refine (impl_AreWires.calls k _ _ l0 a1 _ _ l2 true _ ?side1 ?side2 ?side3 ?side4 A7.out).mono ?_); (case side1 => repeat (first | exact HR0.out | (with_reducible refine jR ?_ _) | (with_reducible refine jQ ?_ _) | (with_reducible refine jS ?_))); (case side2 => exact HC0.out); (case side3 => repeat (first | exact HR2.out | (with_reducible refine jR ?_ _) | (with_reducible refine jQ ?_ _) | (with_reducible refine jS ?_))); (case side4 => exact HC2.out); rintro e w16 ⟨rfl, hb⟩; refine ⟨_, rfl, ?_⟩; have n0_ := jA (jV (zb0 HB) hb); clear HB; have HB := n0_; clear n0_; (try clear hb); (try clear hb2); (try clear hk); (try clear hi)) | ((with_reducible refine jN (f := 55) rfl ?_); refine goesL_ (some 19) rfl rfl Try.func55 zr rfl #[.int .i64 a3] rfl zm ?_; (with_reducible refine (impl_isHop.calls a3 true _ A9.out).mono ?_); rintro e w' ⟨rfl, ⟨nd, rfl⟩⟩; refine ⟨_, rfl, ?_⟩) | (go_at_call 56; (with_reducible refine (impl_isTick.calls a4 true _ A11.out).mono ?_); rintro e w' ⟨rfl, ⟨nd, rfl⟩⟩) | (go_at_call 87; (with_reducible refine (impl_allWithin.calls k _ _ l5 (-1) 100000 true _ ?side1 ?side2 A14.out).mono ?_); (case side1 => repeat (first | exact HR5.out | exact (Kd.C_below HR5.out (zb0 HB)) | (with_reducible refine jR ?_ _) | (with_reducible refine jQ ?_ _) | (with_reducible refine jS ?_))); (case side2 => exact HC5.out); rintro e w' ⟨rfl, ⟨nd, rfl⟩⟩))
      go_ret
      exact ⟨by first | rfl | (simp [errW_none, errW_some] <;> rfl) | (simp [*, errW_none, errW_some] <;> rfl), zb0 HB⟩
     ·replace c15 := Bool.eq_false_iff.mpr c15
      subst c15
      have H1 : (some 2) = some r := by rw [if_neg (show ¬ (false = true) by decide)] at H; exact H
      clear H
      have H := H1
      clear H1
      obtain rfl := jW H
      go_enter Try.func74, Try.ntmps74
      go_wp2_with (first | ((with_reducible refine jN (f := 86) rfl ?_); refine goesL_ (some 16) rfl rfl Try.func86 zr rfl #[.slice A0 l0.length c0, .int .i64 a1, .slice A2 l2.length c2] rfl zm ?_; (with_reducible refine (impl_AreWires.calls k _ _ l0 a1 _ _ l2 true _ ?side1 ?side2 ?side3 ?side4 A7.out).mono ?_); (case side1 => repeat (first | exact HR0.out | (with_reducible refine jR ?_ _) | (with_reducible refine jQ ?_ _) | (with_reducible refine jS ?_))); (case side2 => exact HC0.out); (case side3 => repeat (first | exact HR2.out | (with_reducible refine jR ?_ _) | (with_reducible refine jQ ?_ _) | (with_reducible refine jS ?_))); (case side4 => exact HC2.out); rintro e w17 ⟨rfl, hb⟩; refine ⟨_, rfl, ?_⟩; have n0_ := jA (jV (zb0 HB) hb); clear HB; have HB := n0_; clear n0_; (try clear hb); (try clear hb2); (try clear hk); (try clear hi)) | ((with_reducible refine jN (f := 55) rfl ?_); refine goesL_ (some 19) rfl rfl Try.func55 zr rfl #[.int .i64 a3] rfl zm ?_; (with_reducible refine (impl_isHop.calls a3 true _ A9.out).mono ?_); rintro e w' ⟨rfl, ⟨nd, rfl⟩⟩; refine ⟨_, rfl, ?_⟩) | (go_at_call 56; (with_reducible refine (impl_isTick.calls a4 true _ A11.out).mono ?_); rintro e w' ⟨rfl, ⟨nd, rfl⟩⟩) | (go_at_call 87; (with_reducible refine (impl_allWithin.calls k _ _ l5 (-1) 100000 false _ ?side1 ?side2 A14.out).mono ?_); (case side1 => repeat (first | exact HR5.out | exact (Kd.C_below HR5.out (zb0 HB)) | (with_reducible refine jR ?_ _) | (with_reducible refine jQ ?_ _) | (with_reducible refine jS ?_))); (case side2 => exact HC5.out); rintro e w' ⟨rfl, ⟨nd, rfl⟩⟩))
      go_ret
      exact ⟨by first | rfl | (simp [errW_none, errW_some] <;> rfl) | (simp [*, errW_none, errW_some] <;> rfl), zb0 HB⟩
    ·rw [if_neg c13] at H
     have c13b0 : ((l5.length : Int) == a1) = false := beq_eq_false_iff_ne.mpr c13
     have c13b1 : ((l5.length : Int) != a1) = true := bne_iff_ne.mpr c13
     obtain rfl := jW H
     go_enter Try.func74, Try.ntmps74
     go_wp2_with (first | ((with_reducible refine jN (f := 86) rfl ?_); refine goesL_ (some 16) rfl rfl Try.func86 zr rfl #[.slice A0 l0.length c0, .int .i64 a1, .slice A2 l2.length c2] rfl zm ?_; (with_reducible refine (impl_AreWires.calls k _ _ l0 a1 _ _ l2 true _ ?side1 ?side2 ?side3 ?side4 A7.out).mono ?_); (case side1 => repeat (first | exact HR0.out | (with_reducible refine jR ?_ _) | (with_reducible refine jQ ?_ _) | (with_reducible refine jS ?_))); (case side2 => exact HC0.out); (case side3 => repeat (first | exact HR2.out | (with_reducible refine jR ?_ _) | (with_reducible refine jQ ?_ _) | (with_reducible refine jS ?_))); (case side4 => exact HC2.out); rintro e w18 ⟨rfl, hb⟩; refine ⟨_, rfl, ?_⟩; have n0_ := jA (jV (zb0 HB) hb); clear HB; have HB := n0_; clear n0_; (try clear hb); (try clear hb2); (try clear hk); (try clear hi)) | ((with_reducible refine jN (f := 55) rfl ?_); refine goesL_ (some 19) rfl rfl Try.func55 zr rfl #[.int .i64 a3] rfl zm ?_; (with_reducible refine (impl_isHop.calls a3 true _ A9.out).mono ?_); rintro e w' ⟨rfl, ⟨nd, rfl⟩⟩; refine ⟨_, rfl, ?_⟩) | (go_at_call 56; (with_reducible refine (impl_isTick.calls a4 true _ A11.out).mono ?_); rintro e w' ⟨rfl, ⟨nd, rfl⟩⟩))
     go_ret
     exact ⟨by first | rfl | (simp [errW_none, errW_some] <;> rfl) | (simp [*, errW_none, errW_some] <;> rfl), zb0 HB⟩
   ·replace c12 := Bool.eq_false_iff.mpr c12
    subst c12
    have H1 : (some 2) = some r := by rw [if_neg (show ¬ (false = true) by decide)] at H; exact H
    clear H
    have H := H1
    clear H1
    obtain rfl := jW H
    go_enter Try.func74, Try.ntmps74
    go_wp2_with (first | ((with_reducible refine jN (f := 86) rfl ?_); refine goesL_ (some 16) rfl rfl Try.func86 zr rfl #[.slice A0 l0.length c0, .int .i64 a1, .slice A2 l2.length c2] rfl zm ?_; (with_reducible refine (impl_AreWires.calls k _ _ l0 a1 _ _ l2 true _ ?side1 ?side2 ?side3 ?side4 A7.out).mono ?_); (case side1 => repeat (first | exact HR0.out | (with_reducible refine jR ?_ _) | (with_reducible refine jQ ?_ _) | (with_reducible refine jS ?_))); (case side2 => exact HC0.out); (case side3 => repeat (first | exact HR2.out | (with_reducible refine jR ?_ _) | (with_reducible refine jQ ?_ _) | (with_reducible refine jS ?_))); (case side4 => exact HC2.out); rintro e w19 ⟨rfl, hb⟩; refine ⟨_, rfl, ?_⟩; have n0_ := jA (jV (zb0 HB) hb); clear HB; have HB := n0_; clear n0_; (try clear hb); (try clear hb2); (try clear hk); (try clear hi)) | ((with_reducible refine jN (f := 55) rfl ?_); refine goesL_ (some 19) rfl rfl Try.func55 zr rfl #[.int .i64 a3] rfl zm ?_; (with_reducible refine (impl_isHop.calls a3 true _ A9.out).mono ?_); rintro e w' ⟨rfl, ⟨nd, rfl⟩⟩; refine ⟨_, rfl, ?_⟩) | (go_at_call 56; (with_reducible refine (impl_isTick.calls a4 false _ A11.out).mono ?_); rintro e w' ⟨rfl, ⟨nd, rfl⟩⟩))
    go_ret
    exact ⟨by first | rfl | (simp [errW_none, errW_some] <;> rfl) | (simp [*, errW_none, errW_some] <;> rfl), zb0 HB⟩
  ·replace c10 := Bool.eq_false_iff.mpr c10
   subst c10
   have H1 : (some 2) = some r := by rw [if_neg (show ¬ (false = true) by decide)] at H; exact H
   clear H
   have H := H1
   clear H1
   obtain rfl := jW H
   go_enter Try.func74, Try.ntmps74
   go_wp2_with (first | ((with_reducible refine jN (f := 86) rfl ?_); refine goesL_ (some 16) rfl rfl Try.func86 zr rfl #[.slice A0 l0.length c0, .int .i64 a1, .slice A2 l2.length c2] rfl zm ?_; (with_reducible refine (impl_AreWires.calls k _ _ l0 a1 _ _ l2 true _ ?side1 ?side2 ?side3 ?side4 A7.out).mono ?_); (case side1 => repeat (first | exact HR0.out | (with_reducible refine jR ?_ _) | (with_reducible refine jQ ?_ _) | (with_reducible refine jS ?_))); (case side2 => exact HC0.out); (case side3 => repeat (first | exact HR2.out | (with_reducible refine jR ?_ _) | (with_reducible refine jQ ?_ _) | (with_reducible refine jS ?_))); (case side4 => exact HC2.out); rintro e w20 ⟨rfl, hb⟩; refine ⟨_, rfl, ?_⟩; have n0_ := jA (jV (zb0 HB) hb); clear HB; have HB := n0_; clear n0_; (try clear hb); (try clear hb2); (try clear hk); (try clear hi)) | ((with_reducible refine jN (f := 55) rfl ?_); refine goesL_ (some 19) rfl rfl Try.func55 zr rfl #[.int .i64 a3] rfl zm ?_; (with_reducible refine (impl_isHop.calls a3 false _ A9.out).mono ?_); rintro e w' ⟨rfl, ⟨nd, rfl⟩⟩; refine ⟨_, rfl, ?_⟩))
   go_ret
   exact ⟨by first | rfl | (simp [errW_none, errW_some] <;> rfl) | (simp [*, errW_none, errW_some] <;> rfl), zb0 HB⟩
 ·replace c8 := Bool.eq_false_iff.mpr c8
  subst c8
  have H1 : (some 1) = some r := by rw [if_neg (show ¬ (false = true) by decide)] at H; exact H
  clear H
  have H := H1
  clear H1
  obtain rfl := jW H
  go_enter Try.func74, Try.ntmps74
  go_wp2_with (first | ((with_reducible refine jN (f := 86) rfl ?_); refine goesL_ (some 16) rfl rfl Try.func86 zr rfl #[.slice A0 l0.length c0, .int .i64 a1, .slice A2 l2.length c2] rfl zm ?_; (with_reducible refine (impl_AreWires.calls k _ _ l0 a1 _ _ l2 false _ ?side1 ?side2 ?side3 ?side4 A7.out).mono ?_); (case side1 => repeat (first | exact HR0.out | (with_reducible refine jR ?_ _) | (with_reducible refine jQ ?_ _) | (with_reducible refine jS ?_))); (case side2 => exact HC0.out); (case side3 => repeat (first | exact HR2.out | (with_reducible refine jR ?_ _) | (with_reducible refine jQ ?_ _) | (with_reducible refine jS ?_))); (case side4 => exact HC2.out); rintro e w21 ⟨rfl, hb⟩; refine ⟨_, rfl, ?_⟩; have n0_ := jA (jV (zb0 HB) hb); clear HB; have HB := n0_; clear n0_; (try clear hb); (try clear hb2); (try clear hk); (try clear hi)))
  go_ret
  exact ⟨by first | rfl | (simp [errW_none, errW_some] <;> rfl) | (simp [*, errW_none, errW_some] <;> rfl), zb0 HB⟩

/-! ### impl_isLate: function 75 -/
def impl_isLate.f (k : Nat) (l0 : List (S63)) (a1_0 : Int) (a1_1 : Int) (a1_2 : Int) (a2 : Int) (a3 : Int) (l4 : List Int) : Option (Bool) := if 0 ≤ a1_0 then (if a1_0 < (l4.length : Int) then (if (rd l4 a1_0) ≥ a3 then ((impl_stopTick.f k l0 a2 a3 a1_1).bind fun t209 => (some (decide ((rd l4 a1_0) < t209)))) else (some false)) else (none)) else (none)
theorem impl_isLate.mono : ∀ a0 a1 a2 a3 a4 a5 a6 k, LeO (impl_isLate.f k a0 a1 a2 a3 a4 a5 a6) (impl_isLate.f (k + 1) a0 a1 a2 a3 a4 a5 a6) := by
 intro a0 a1 a2 a3 a4 a5 a6 k
 unfold impl_isLate.f
 repeat' first
   | (with_reducible exact impl_stopTick.mono _ _ _ _ _)
   | (with_reducible exact LeO.refl _)
   | (with_reducible exact LeO.none _)
   | (with_reducible refine LeO.ite ?_ ?_)
   | (with_reducible refine LeO.bind ?_ (fun _ => ?_))
   | exact impl_stopTick.mono _ _ _ _ _
   | exact LeO.none _
   | refine LeO.ite ?_ ?_
   | refine LeO.bind ?_ (fun _ => ?_)
set_option maxHeartbeats 8000000 in
set_option maxRecDepth 100000 in
theorem impl_isLate.calls (k : Nat) (A0 : Option Addr) (c0 : Nat) (l0 : List (S63)) (a1_0 : Int) (a1_1 : Int) (a1_2 : Int) (a2 : Int) (a3 : Int) (A4 : Option Addr) (c4 : Nat) (l4 : List Int) (r : Bool) (w : World) (hr0 : Kd.C k63 w A0 l0.length l0) (hc0 : l0.length ≤ c0) (hr4 : Kd.C (Kd.int .i64) w A4 l4.length l4) (hc4 : l4.length ≤ c4) (h : impl_isLate.f k l0 a1_0 a1_1 a1_2 a2 a3 l4 = some r) :
  Calls Try.prog 75 #[.slice A0 l0.length c0, .agg #[.int .i64 a1_0, .int .i64 a1_1, .int .i64 a1_2], .int .i64 a2, .int .i64 a3, .slice A4 l4.length c4] w fun e w' => e = .returned (.bool r) ∧ Below w.heap.size w w' := by
 have hu59 := Try.underlying59
 have HR0 := jA hr0
 have HC0 := jA hc0
 clear hr0 hc0
 have HR4 := jA hr4
 have HC4 := jA hc4
 clear hr4 hc4
 have HB := jA (Below.refl w.heap.size w)
 have H : (if 0 ≤ a1_0 then (if a1_0 < (l4.length : Int) then (if (rd l4 a1_0) ≥ a3 then ((impl_stopTick.f k l0 a2 a3 a1_1).bind fun t209 => (some (decide ((rd l4 a1_0) < t209)))) else (some false)) else (none)) else (none)) = some r := h
 clear h
 by_cases c6 : 0 ≤ a1_0
 ·rw [if_pos c6] at H
  have c6b0 : decide (0 ≤ a1_0) = true := jP c6
  clear c6
  by_cases c7 : a1_0 < (l4.length : Int)
  ·rw [if_pos c7] at H
   have c7b0 : decide (a1_0 < (l4.length : Int)) = true := jP c7
   clear c7
   by_cases c8 : (rd l4 a1_0) ≥ a3
   ·rw [if_pos c8] at H
    have c8b0 : decide (a3 ≤ (rd l4 a1_0)) = true := jP c8
    clear c8
    replace H := jD.mp H
    obtain ⟨t209, A90, H⟩ := H
    replace H : (some (decide ((rd l4 a1_0) < t209))) = some r := H
    have A9 := jA A90
    clear A90
    obtain rfl := jW H
    go_enter Try.func75, Try.ntmps75
    go_wp2_with (first | ((with_reducible refine gate_dst (N := 6) rfl ?_); refine box_event ?hg (N := 6) ?hd (cs := #[.int .i64 a1_0, .int .i64 a1_1, .int .i64 a1_2]) (t := 59) ?hr ?_; (case hd => rfl); (case hg => rfl); (case hr => first | (go_simp; done) | (go_simp; rfl)); intro gb207 hg w10 hbox hb; have n0_ := jA (jV (zb0 HB) hb); have n1_ := jA (hbox); have n2_ := jA ((by rw [hg]; exact (jY (zb0 HB)) : w.heap.size ≤ gb207)); have n3_ := jA ((by rw [hg]; exact (jY (zb0 HB)) : w.heap.size ≤ gb207)); clear HB; have HB := n0_; have BK207 := n1_; have GW207 := n2_; have GE207 := n3_; clear n0_ n1_ n2_ n3_; clear hb hbox hg; have hcz11_0 : w10.cell? ⟨gb207, 0, none⟩ = some (.int .i64 a1_0) := (jF BK207.out 0).trans rfl; have hcz11_1 : w10.cell? ⟨gb207, 1, none⟩ = some (.int .i64 a1_1) := (jF BK207.out 1).trans rfl; have hcz11_2 : w10.cell? ⟨gb207, 2, none⟩ = some (.int .i64 a1_2) := (jF BK207.out 2).trans rfl; have hfz11_0 := jX BK207.out 0; have hfz11_1 := jX BK207.out 1; have hfz11_2 := jX BK207.out 2; have p208 : 0 ≤ (a1_0 : Int) := jB za; have q208 : a1_0 < (l4.length : Int) := jB za; obtain ⟨ad208, e208, hx208_0⟩ := jh HR4.out a1_0 p208 q208; cases e208; replace hx208_0 := (HB.out.cell (jC w _ hx208_0)).trans hx208_0; replace p208 := eq_true p208; replace q208 := eq_true q208) | (go_at_call 62; (with_reducible refine (impl_stopTick.calls k _ _ l0 a2 a3 a1_1 t209 _ ?side1 ?side2 A9.out).mono ?_); (case side1 => exact zs HR0 HB); (case side2 => exact HC0.out); rintro e w12 ⟨rfl, hb⟩; have n0_ := jA (blk_below (g := gb207) (o := .cells #[.int .i64 a1_0, .int .i64 a1_1, .int .i64 a1_2] 59 (0, 0)) (zk BK207) hb); have n1_ := jA (jV (zb1 HB GE207) hb); clear BK207; clear HB; have BK207 := n0_; have HB := n1_; clear n0_ n1_; (try clear hb); (try clear hb2); (try clear hk); (try clear hi)))
    go_ret
    exact ⟨by first | rfl | (simp [errW_none, errW_some] <;> rfl) | (simp [*, errW_none, errW_some] <;> rfl), zb1 HB GE207⟩
   ·rw [if_neg c8] at H
    have c8b0 : decide (a3 ≤ (rd l4 a1_0)) = false := ja c8
    clear c8
    obtain rfl := jW H
    go_enter Try.func75, Try.ntmps75
    go_wp2_with (first | ((with_reducible refine gate_dst (N := 6) rfl ?_); refine box_event ?hg (N := 6) ?hd (cs := #[.int .i64 a1_0, .int .i64 a1_1, .int .i64 a1_2]) (t := 59) ?hr ?_; (case hd => rfl); (case hg => rfl); (case hr => first | (go_simp; done) | (go_simp; rfl)); intro gb207 hg w13 hbox hb; have n0_ := jA (jV (zb0 HB) hb); have n1_ := jA (hbox); have n2_ := jA ((by rw [hg]; exact (jY (zb0 HB)) : w.heap.size ≤ gb207)); have n3_ := jA ((by rw [hg]; exact (jY (zb0 HB)) : w.heap.size ≤ gb207)); clear HB; have HB := n0_; have BK207 := n1_; have GW207 := n2_; have GE207 := n3_; clear n0_ n1_ n2_ n3_; clear hb hbox hg; have hcz14_0 : w13.cell? ⟨gb207, 0, none⟩ = some (.int .i64 a1_0) := (jF BK207.out 0).trans rfl; have hcz14_1 : w13.cell? ⟨gb207, 1, none⟩ = some (.int .i64 a1_1) := (jF BK207.out 1).trans rfl; have hcz14_2 : w13.cell? ⟨gb207, 2, none⟩ = some (.int .i64 a1_2) := (jF BK207.out 2).trans rfl; have hfz14_0 := jX BK207.out 0; have hfz14_1 := jX BK207.out 1; have hfz14_2 := jX BK207.out 2; have p208 : 0 ≤ (a1_0 : Int) := jB za; have q208 : a1_0 < (l4.length : Int) := jB za; obtain ⟨ad208, e208, hx208_0⟩ := jh HR4.out a1_0 p208 q208; cases e208; replace hx208_0 := (HB.out.cell (jC w _ hx208_0)).trans hx208_0; replace p208 := eq_true p208; replace q208 := eq_true q208))
    go_ret
    exact ⟨by first | rfl | (simp [errW_none, errW_some] <;> rfl) | (simp [*, errW_none, errW_some] <;> rfl), zb1 HB GE207⟩
  ·rw [if_neg c7] at H
   exact absurd H (by simp)
 ·rw [if_neg c6] at H
  exact absurd H (by simp)

/-! ### impl_LateCues: function 40 -/
def impl_LateCues.l0 : Nat → List (S63) → Int → Int → List Int → List Int → List (S59) → Int → Int → Option (List Int × Int)
 | 0, _, _, _, _, _, _, _, _ => none
 | k + 1, x0, x3, x4, x5, x15, x28, x29, x30 => if x30 < x29 then (if 0 ≤ x30 then (if x30 < (x28.length : Int) then ((impl_isLate.f k x0 ((rd_T59 x28 x30).f0) ((rd_T59 x28 x30).f1) ((rd_T59 x28 x30).f2) x3 x4 x5).bind fun t213 => (if t213 = true then (if x15.length < 17592186044416 then (impl_LateCues.l0 k x0 x3 x4 x5 (x15 ++ [(rd_T59 x28 x30).f0]) x28 x29 (wrap64 (x30 + 1))) else (none)) else (impl_LateCues.l0 k x0 x3 x4 x5 x15 x28 x29 (wrap64 (x30 + 1))))) else (none)) else (none)) else (some (x15, 0))
def impl_LateCues.f (k : Nat) (l0 : List (S63)) (a1 : Int) (l2 : List (S59)) (a3 : Int) (a4 : Int) (l5 : List Int) : Option (List Int × Int) := (impl_stopsAsked.f k l0 a1 l2 a3 a4 l5).bind fun t210 => (if t210 = 0 then (impl_LateCues.l0 k l0 a3 a4 l5 ([] : List Int) l2 (l2.length : Int) 0) else (some (([] : List Int), t210)))
theorem impl_LateCues.mono_l : ∀ k, (∀ y0 y1 y2 y3 y4 y5 y6 y7, LeO (impl_LateCues.l0 k y0 y1 y2 y3 y4 y5 y6 y7) (impl_LateCues.l0 (k + 1) y0 y1 y2 y3 y4 y5 y6 y7))
 | 0 => fun _ _ _ _ _ _ _ _ r h => by simp [impl_LateCues.l0] at h
 | k + 1 => by
  have ih0 := impl_LateCues.mono_l k
  ·intro y0 y1 y2 y3 y4 y5 y6 y7
   unfold impl_LateCues.l0
   repeat' first
   | (with_reducible exact ih0 _ _ _ _ _ _ _ _)
   | (with_reducible exact impl_isLate.mono _ _ _ _ _ _ _ _)
   | (with_reducible exact impl_stopsAsked.mono _ _ _ _ _ _ _)
   | (with_reducible exact LeO.refl _)
   | (with_reducible exact LeO.none _)
   | (with_reducible refine LeO.ite ?_ ?_)
   | (with_reducible refine LeO.bind ?_ (fun _ => ?_))
   | exact ih0 _ _ _ _ _ _ _ _
   | exact impl_isLate.mono _ _ _ _ _ _ _ _
   | exact impl_stopsAsked.mono _ _ _ _ _ _ _
   | exact LeO.none _
   | refine LeO.ite ?_ ?_
   | refine LeO.bind ?_ (fun _ => ?_)
theorem impl_LateCues.mono : ∀ a0 a1 a2 a3 a4 a5 k, LeO (impl_LateCues.f k a0 a1 a2 a3 a4 a5) (impl_LateCues.f (k + 1) a0 a1 a2 a3 a4 a5) := by
 intro a0 a1 a2 a3 a4 a5 k
 have ih0 := impl_LateCues.mono_l k
 unfold impl_LateCues.f
 repeat' first
   | (with_reducible exact ih0 _ _ _ _ _ _ _ _)
   | (with_reducible exact impl_isLate.mono _ _ _ _ _ _ _ _)
   | (with_reducible exact impl_stopsAsked.mono _ _ _ _ _ _ _)
   | (with_reducible exact LeO.refl _)
   | (with_reducible exact LeO.none _)
   | (with_reducible refine LeO.ite ?_ ?_)
   | (with_reducible refine LeO.bind ?_ (fun _ => ?_))
   | exact ih0 _ _ _ _ _ _ _ _
   | exact impl_isLate.mono _ _ _ _ _ _ _ _
   | exact impl_stopsAsked.mono _ _ _ _ _ _ _
   | exact LeO.none _
   | refine LeO.ite ?_ ?_
   | refine LeO.bind ?_ (fun _ => ?_)
set_option maxHeartbeats 8000000 in
set_option maxRecDepth 100000 in
theorem impl_LateCues.calls (k : Nat) (A0 : Option Addr) (c0 : Nat) (l0 : List (S63)) (a1 : Int) (A2 : Option Addr) (c2 : Nat) (l2 : List (S59)) (a3 : Int) (a4 : Int) (A5 : Option Addr) (c5 : Nat) (l5 : List Int) (r1 : List Int) (r2 : Int) (w : World) (hr0 : Kd.C k63 w A0 l0.length l0) (hc0 : l0.length ≤ c0) (hr2 : Kd.C k59 w A2 l2.length l2) (hc2 : l2.length ≤ c2) (hr5 : Kd.C (Kd.int .i64) w A5 l5.length l5) (hc5 : l5.length ≤ c5) (h : impl_LateCues.f k l0 a1 l2 a3 a4 l5 = some (r1, r2)) :
  Calls Try.prog 40 #[.slice A0 l0.length c0, .int .i64 a1, .slice A2 l2.length c2, .int .i64 a3, .int .i64 a4, .slice A5 l5.length c5] w fun e w' => ∃ v0_ : Value, e = .returned (.tuple #[v0_, .int .i64 r2]) ∧ Kd.R (Kd.int .i64) 2 w' w.heap.size (fun _ => True) v0_ r1 ∧ Below w.heap.size w w' := by
 have hu59 := Try.underlying59
 have HR0 := jA hr0
 have HC0 := jA hc0
 clear hr0 hc0
 have HR2 := jA hr2
 have HC2 := jA hc2
 clear hr2 hc2
 have HR5 := jA hr5
 have HC5 := jA hc5
 clear hr5 hc5
 have HB := jA (Below.refl w.heap.size w)
 have H : ((impl_stopsAsked.f k l0 a1 l2 a3 a4 l5).bind fun t210 => (if t210 = 0 then (impl_LateCues.l0 k l0 a3 a4 l5 ([] : List Int) l2 (l2.length : Int) 0) else (some (([] : List Int), t210)))) = some (r1, r2) := h
 clear h
 replace H := jD.mp H
 obtain ⟨t210, A70, H⟩ := H
 replace H : (if t210 = 0 then (impl_LateCues.l0 k l0 a3 a4 l5 ([] : List Int) l2 (l2.length : Int) 0) else (some (([] : List Int), t210))) = some (r1, r2) := H
 have A7 := jA A70
 clear A70
 by_cases c8 : t210 = 0
 ·rw [if_pos c8] at H
  have c8b0 : (t210 == 0) = true := beq_iff_eq.mpr c8
  have c8b1 : (t210 != 0) = false := bne_eq_false_iff_eq.mpr c8
  clear c8
  have H' := jA H
  clear H
  go_enter Try.func40, Try.ntmps40
  go_wp2_with (first | ((with_reducible refine jN (f := 74) rfl ?_); refine goesL_ (some 24) rfl rfl Try.func74 zr rfl #[.slice A0 l0.length c0, .int .i64 a1, .slice A2 l2.length c2, .int .i64 a3, .int .i64 a4, .slice A5 l5.length c5] rfl zm ?_; (with_reducible refine (impl_stopsAsked.calls k _ _ l0 a1 _ _ l2 a3 a4 _ _ l5 t210 _ ?side1 ?side2 ?side3 ?side4 ?side5 ?side6 A7.out).mono ?_); (case side1 => repeat (first | exact HR0.out | (with_reducible refine jR ?_ _) | (with_reducible refine jQ ?_ _) | (with_reducible refine jS ?_))); (case side2 => exact HC0.out); (case side3 => repeat (first | exact HR2.out | (with_reducible refine jR ?_ _) | (with_reducible refine jQ ?_ _) | (with_reducible refine jS ?_))); (case side4 => exact HC2.out); (case side5 => repeat (first | exact HR5.out | (with_reducible refine jR ?_ _) | (with_reducible refine jQ ?_ _) | (with_reducible refine jS ?_))); (case side6 => exact HC5.out); rintro e w9 ⟨rfl, hb⟩; refine ⟨_, rfl, ?_⟩; have n0_ := jA (jV (zb0 HB) hb); clear HB; have HB := n0_; clear n0_; (try clear hb); (try clear hb2); (try clear hk); (try clear hi)))
  go_loopg [15, 30] k (fun kq v15 v30 w' => ∃ (x15_1 : List Int) (x30_1 : Int), v30 = .int .i64 x30_1 ∧ Aside0 (impl_LateCues.l0 kq l0 a3 a4 l5 x15_1 l2 (l2.length : Int) x30_1 = some (r1, r2)) ∧ Aside0 (kq ≤ k) ∧ Aside0 (Kd.R (Kd.int .i64) 2 w' w.heap.size (fun _ => True) v15 x15_1) ∧ Aside0 (Below w.heap.size w w'))
  case atStart => exact ⟨(([] : List Int)), (0), zz, H', ⟨Nat.le_refl _⟩, ⟨by first | exact Kd.R_nil _ _ _ _ _ | exact Kd.N_nil _ _ _ _ _ | exact Kd.V_nil _ _ _ _ _ | exact Kd.Q_nil _ _ _ _ _ | exact Kd.S_nil _ _ _ _ _⟩, ⟨zb0 HB⟩⟩
  case round =>
   clear H'
   try clear c2
   try clear p2
   try clear c4
   try clear c5
   try clear c7
   try clear c8
   try clear c8b0
   try clear c8b1
   obtain ⟨x15_1, x30_1, rfl, HA, HK1, HO_15, HB⟩ := hrel
   cases gk with
   | zero => exact absurd HA.out (by simp [impl_LateCues.l0])
   | succ k1 =>
    have H := HA.out
    clear HA
    simp only [impl_LateCues.l0] at H
    by_cases c10 : x30_1 < (l2.length : Int)
    ·rw [if_pos c10] at H
     have c10b0 : decide (x30_1 < (l2.length : Int)) = true := jP c10
     clear c10
     by_cases c11 : 0 ≤ x30_1
     ·rw [if_pos c11] at H
      have c11b0 : decide (0 ≤ x30_1) = true := jP c11
      clear c11
      by_cases c12 : x30_1 < (l2.length : Int)
      ·rw [if_pos c12] at H
       have c12b0 : decide (x30_1 < (l2.length : Int)) = true := jP c12
       clear c12
       replace H := jD.mp H
       obtain ⟨t213, A130, H⟩ := H
       replace H : (if t213 = true then (if x15_1.length < 17592186044416 then (impl_LateCues.l0 k1 l0 a3 a4 l5 (x15_1 ++ [(rd_T59 l2 x30_1).f0]) l2 (l2.length : Int) (wrap64 (x30_1 + 1))) else (none)) else (impl_LateCues.l0 k1 l0 a3 a4 l5 x15_1 l2 (l2.length : Int) (wrap64 (x30_1 + 1)))) = some (r1, r2) := H
       have A13 := jA A130
       clear A130
       by_cases c14 : t213 = true
       ·subst c14
        have H1 : (if x15_1.length < 17592186044416 then (impl_LateCues.l0 k1 l0 a3 a4 l5 (x15_1 ++ [(rd_T59 l2 x30_1).f0]) l2 (l2.length : Int) (wrap64 (x30_1 + 1))) else (none)) = some (r1, r2) := by rw [if_pos rfl] at H; exact H
        clear H
        have H := H1
        clear H1
        by_cases c15 : x15_1.length < 17592186044416
        ·rw [if_pos c15] at H
         have LMc15 := jA c15
         clear c15
         obtain ⟨y214, hy214⟩ : ∃ y_ : List Int, y_ = (x15_1 ++ [(rd_T59 l2 x30_1).f0]) := ⟨_, rfl⟩
         replace H : (impl_LateCues.l0 k1 l0 a3 a4 l5 y214 l2 (l2.length : Int) (wrap64 (x30_1 + 1))) = some (r1, r2) := by first | (rw [hy214]; with_reducible exact H) | (have H2_ := (Option.bind_some _ _).symm.trans H; rw [hy214]; with_reducible exact H2_) | (have H2_ := (Option.bind_some _ _).symm.trans H; with_reducible exact H2_) | with_reducible exact H | (rw [hy214]; exact H) | exact H
         have Ny214 := jA hy214
         clear hy214
         have H' := jA H
         clear H
         have p211 : 0 ≤ (x30_1 : Int) := jB za
         have q211 : x30_1 < (l2.length : Int) := jB za
         obtain ⟨ad211, e211, hx211_0, hx211_1, hx211_2⟩ := at_T59 HR2.out x30_1 p211 q211
         cases e211
         replace hx211_0 := (HB.out.cell (jC w _ hx211_0)).trans hx211_0
         replace hx211_1 := (HB.out.cell (jC w _ hx211_1)).trans hx211_1
         replace hx211_2 := (HB.out.cell (jC w _ hx211_2)).trans hx211_2
         replace p211 := eq_true p211
         replace q211 := eq_true q211
         go_wp2_with (first | ((with_reducible refine gate_dst (N := 17) rfl ?_); refine box_event ?hg (N := 17) ?hd (cs := #[.int .i64 0, .int .i64 0, .int .i64 0]) (t := 59) ?hr ?_; (case hd => rfl); (case hg => rfl); (case hr => first | (go_simp; done) | (go_simp; rfl)); intro gb212 hg w16 hbox hb; have n0_ := jA (jZ (zo HO_15) hb); have n1_ := jA (jV (zb0 HB) hb); have n2_ := jA (hbox); have n3_ := jA ((by rw [hg]; exact (jY (zb0 HB)) : w.heap.size ≤ gb212)); have n4_ := jA ((by rw [hg]; exact (jY (zb0 HB)) : w.heap.size ≤ gb212)); clear HO_15; clear HB; have HO_15 := n0_; have HB := n1_; have BK212 := n2_; have GW212 := n3_; have GE212 := n4_; clear n0_ n1_ n2_ n3_ n4_; clear hb hbox hg; have hcz17_0 : w16.cell? ⟨gb212, 0, none⟩ = some (.int .i64 0) := (jF BK212.out 0).trans rfl; have hcz17_1 : w16.cell? ⟨gb212, 1, none⟩ = some (.int .i64 0) := (jF BK212.out 1).trans rfl; have hcz17_2 : w16.cell? ⟨gb212, 2, none⟩ = some (.int .i64 0) := (jF BK212.out 2).trans rfl; have hfz17_0 := jX BK212.out 0; have hfz17_1 := jX BK212.out 1; have hfz17_2 := jX BK212.out 2) | ((with_reducible refine jN (f := 75) rfl ?_); refine goesL_ (some 39) rfl rfl Try.func75 zr rfl #[.slice A0 l0.length c0, .agg #[.int .i64 ((rd_T59 l2 x30_1).f0), .int .i64 ((rd_T59 l2 x30_1).f1), .int .i64 ((rd_T59 l2 x30_1).f2)], .int .i64 a3, .int .i64 a4, .slice A5 l5.length c5] rfl zm ?_; (with_reducible refine (impl_isLate.calls k1 _ _ l0 ((rd_T59 l2 x30_1).f0) ((rd_T59 l2 x30_1).f1) ((rd_T59 l2 x30_1).f2) a3 a4 _ _ l5 true _ ?side1 ?side2 ?side3 ?side4 A13.out).mono ?_); (case side1 => exact Kd.C_below HR0.out (zb1 HB GE212)); (case side2 => exact HC0.out); (case side3 => exact Kd.C_below HR5.out (zb1 HB GE212)); (case side4 => exact HC5.out); rintro e w18 ⟨rfl, hb⟩; refine ⟨_, rfl, ?_⟩; have n0_ := jA (jZ (by (with_reducible repeat (first | apply jH | apply jG | apply jK)); exact (Kd.R_mono (Kd.R_far (p := ⟨gb212, 2, none⟩) (Kd.R_far (p := ⟨gb212, 1, none⟩) (Kd.R_far (p := ⟨gb212, 0, none⟩) (Kd.R_types HO_15.out BK212.out (by decide)) (fun _ hk => hk.2) (.int .i64 ((rd_T59 l2 x30_1).f0))) (fun _ hk => hk.2) (.int .i64 ((rd_T59 l2 x30_1).f1))) (fun _ hk => hk.2) (.int .i64 ((rd_T59 l2 x30_1).f2))) (fun _ h_ => h_.1))) hb); have n1_ := jA (blk_below (g := gb212) (o := .cells #[.int .i64 ((rd_T59 l2 x30_1).f0), .int .i64 ((rd_T59 l2 x30_1).f1), .int .i64 ((rd_T59 l2 x30_1).f2)] 59 (0, 0)) (by (with_reducible repeat (first | refine jc ?_ _ | refine jb ?_ | refine jd ?_ _)); refine blk_put (cs := #[.int .i64 ((rd_T59 l2 x30_1).f0), .int .i64 ((rd_T59 l2 x30_1).f1), .int .i64 0]) ?_ 2 _ rfl; (with_reducible repeat (first | refine jc ?_ _ | refine jb ?_ | refine jd ?_ _)); refine blk_put (cs := #[.int .i64 ((rd_T59 l2 x30_1).f0), .int .i64 0, .int .i64 0]) ?_ 1 _ rfl; (with_reducible repeat (first | refine jc ?_ _ | refine jb ?_ | refine jd ?_ _)); refine blk_put (cs := #[.int .i64 0, .int .i64 0, .int .i64 0]) ?_ 0 _ rfl; (with_reducible repeat (first | refine jc ?_ _ | refine jb ?_ | refine jd ?_ _)); exact BK212.out) hb); have n2_ := jA (jV (zb1 HB GE212) hb); clear HO_15; clear BK212; clear HB; have HO_15 := n0_; have BK212 := n1_; have HB := n2_; clear n0_ n1_ n2_; (try clear hb); (try clear hb2); (try clear hk); (try clear hi); have hcz19_0 : w18.cell? ⟨gb212, 0, none⟩ = some (.int .i64 ((rd_T59 l2 x30_1).f0)) := (jF BK212.out 0).trans rfl; have hcz19_1 : w18.cell? ⟨gb212, 1, none⟩ = some (.int .i64 ((rd_T59 l2 x30_1).f1)) := (jF BK212.out 1).trans rfl; have hcz19_2 : w18.cell? ⟨gb212, 2, none⟩ = some (.int .i64 ((rd_T59 l2 x30_1).f2)) := (jF BK212.out 2).trans rfl; have hfz19_0 := jX BK212.out 0; have hfz19_1 := jX BK212.out 1; have hfz19_2 := jX BK212.out 2) | ((with_reducible refine gate_builtin (b := .append) (xs := #[.tmp 40, .tmp 43]) rfl ?_); at_builtin; refine Kd.R_append (Kd.int .i64) (w0 := w) w.heap.size rfl (.tmp 40) (.tmp 43) 32 2 (.int .i64 0) 8 rfl Try.underlying32 info2 rfl (by decide) (by omega) u15 x15_1 ((rd_T59 l2 x30_1).f0) [.int .i64 ((rd_T59 l2 x30_1).f0)] (fun _ => True) (fun _ => False) rfl rfl ?aP (fun _ hk => hk.elim) ?aF ?aO ?aB ?aS ?aL ?_; (case aP => exact rfl); (case aB => exact (zb1 HB GE212)); (case aF => exact (fun _ _ => trivial)); (case aO => exact (zo HO_15)); (case aS => exact (jY (zb1 HB GE212))); (case aL => have := LMc15.out; omega); intro v215 w20 ho hb hg hat; rw [← Ny214.out] at ho; have n0_ := jA (blk_grown (g := gb212) (o := .cells #[.int .i64 ((rd_T59 l2 x30_1).f0), .int .i64 ((rd_T59 l2 x30_1).f1), .int .i64 ((rd_T59 l2 x30_1).f2)] 59 (0, 0)) (zk BK212) hg (Kd.R_ne HO_15.out BK212.out (by decide))); have n1_ := jA (hb); have n2_ := jA (ho); clear BK212; clear HB; clear HO_15; have BK212 := n0_; have HB := n1_; have HO216 := n2_; clear n0_ n1_ n2_; clear ho hb hg hat))
         go_roundg k1
         case measure => have := HK1.out; omega
         case rel => exact ⟨(y214), (wrap64 (x30_1 + 1)), zz, H', ⟨by have := HK1.out; omega⟩, ⟨by (with_reducible repeat (first | apply jH | apply jG | apply jK)); exact HO216.out⟩, ⟨zb1 HB GE212⟩⟩
        ·rw [if_neg c15] at H
         exact absurd H (by simp)
       ·replace c14 := Bool.eq_false_iff.mpr c14
        subst c14
        have H1 : (impl_LateCues.l0 k1 l0 a3 a4 l5 x15_1 l2 (l2.length : Int) (wrap64 (x30_1 + 1))) = some (r1, r2) := by rw [if_neg (show ¬ (false = true) by decide)] at H; exact H
        clear H
        have H := H1
        clear H1
        have H' := jA H
        clear H
        have p211 : 0 ≤ (x30_1 : Int) := jB za
        have q211 : x30_1 < (l2.length : Int) := jB za
        obtain ⟨ad211, e211, hx211_0, hx211_1, hx211_2⟩ := at_T59 HR2.out x30_1 p211 q211
        cases e211
        replace hx211_0 := (HB.out.cell (jC w _ hx211_0)).trans hx211_0
        replace hx211_1 := (HB.out.cell (jC w _ hx211_1)).trans hx211_1
        replace hx211_2 := (HB.out.cell (jC w _ hx211_2)).trans hx211_2
        replace p211 := eq_true p211
        replace q211 := eq_true q211
        go_wp2_with (first | ((with_reducible refine gate_dst (N := 17) rfl ?_); refine box_event ?hg (N := 17) ?hd (cs := #[.int .i64 0, .int .i64 0, .int .i64 0]) (t := 59) ?hr ?_; (case hd => rfl); (case hg => rfl); (case hr => first | (go_simp; done) | (go_simp; rfl)); intro gb212 hg w21 hbox hb; have n0_ := jA (jZ (zo HO_15) hb); have n1_ := jA (jV (zb0 HB) hb); have n2_ := jA (hbox); have n3_ := jA ((by rw [hg]; exact (jY (zb0 HB)) : w.heap.size ≤ gb212)); have n4_ := jA ((by rw [hg]; exact (jY (zb0 HB)) : w.heap.size ≤ gb212)); clear HO_15; clear HB; have HO_15 := n0_; have HB := n1_; have BK212 := n2_; have GW212 := n3_; have GE212 := n4_; clear n0_ n1_ n2_ n3_ n4_; clear hb hbox hg; have hcz22_0 : w21.cell? ⟨gb212, 0, none⟩ = some (.int .i64 0) := (jF BK212.out 0).trans rfl; have hcz22_1 : w21.cell? ⟨gb212, 1, none⟩ = some (.int .i64 0) := (jF BK212.out 1).trans rfl; have hcz22_2 : w21.cell? ⟨gb212, 2, none⟩ = some (.int .i64 0) := (jF BK212.out 2).trans rfl; have hfz22_0 := jX BK212.out 0; have hfz22_1 := jX BK212.out 1; have hfz22_2 := jX BK212.out 2) | ((with_reducible refine jN (f := 75) rfl ?_); refine goesL_ (some 39) rfl rfl Try.func75 zr rfl #[.slice A0 l0.length c0, .agg #[.int .i64 ((rd_T59 l2 x30_1).f0), .int .i64 ((rd_T59 l2 x30_1).f1), .int .i64 ((rd_T59 l2 x30_1).f2)], .int .i64 a3, .int .i64 a4, .slice A5 l5.length c5] rfl zm ?_; (with_reducible refine (impl_isLate.calls k1 _ _ l0 ((rd_T59 l2 x30_1).f0) ((rd_T59 l2 x30_1).f1) ((rd_T59 l2 x30_1).f2) a3 a4 _ _ l5 false _ ?side1 ?side2 ?side3 ?side4 A13.out).mono ?_); (case side1 => exact Kd.C_below HR0.out (zb1 HB GE212)); (case side2 => exact HC0.out); (case side3 => exact Kd.C_below HR5.out (zb1 HB GE212)); (case side4 => exact HC5.out); rintro e w23 ⟨rfl, hb⟩; refine ⟨_, rfl, ?_⟩; have n0_ := jA (jZ (by (with_reducible repeat (first | apply jH | apply jG | apply jK)); exact (Kd.R_mono (Kd.R_far (p := ⟨gb212, 2, none⟩) (Kd.R_far (p := ⟨gb212, 1, none⟩) (Kd.R_far (p := ⟨gb212, 0, none⟩) (Kd.R_types HO_15.out BK212.out (by decide)) (fun _ hk => hk.2) (.int .i64 ((rd_T59 l2 x30_1).f0))) (fun _ hk => hk.2) (.int .i64 ((rd_T59 l2 x30_1).f1))) (fun _ hk => hk.2) (.int .i64 ((rd_T59 l2 x30_1).f2))) (fun _ h_ => h_.1))) hb); have n1_ := jA (blk_below (g := gb212) (o := .cells #[.int .i64 ((rd_T59 l2 x30_1).f0), .int .i64 ((rd_T59 l2 x30_1).f1), .int .i64 ((rd_T59 l2 x30_1).f2)] 59 (0, 0)) (by (with_reducible repeat (first | refine jc ?_ _ | refine jb ?_ | refine jd ?_ _)); refine blk_put (cs := #[.int .i64 ((rd_T59 l2 x30_1).f0), .int .i64 ((rd_T59 l2 x30_1).f1), .int .i64 0]) ?_ 2 _ rfl; (with_reducible repeat (first | refine jc ?_ _ | refine jb ?_ | refine jd ?_ _)); refine blk_put (cs := #[.int .i64 ((rd_T59 l2 x30_1).f0), .int .i64 0, .int .i64 0]) ?_ 1 _ rfl; (with_reducible repeat (first | refine jc ?_ _ | refine jb ?_ | refine jd ?_ _)); refine blk_put (cs := #[.int .i64 0, .int .i64 0, .int .i64 0]) ?_ 0 _ rfl; (with_reducible repeat (first | refine jc ?_ _ | refine jb ?_ | refine jd ?_ _)); exact BK212.out) hb); have n2_ := jA (jV (zb1 HB GE212) hb); clear HO_15; clear BK212; clear HB; have HO_15 := n0_; have BK212 := n1_; have HB := n2_; clear n0_ n1_ n2_; (try clear hb); (try clear hb2); (try clear hk); (try clear hi)))
        go_roundg k1
        case measure => have := HK1.out; omega
        case rel => exact ⟨(x15_1), (wrap64 (x30_1 + 1)), zz, H', ⟨by have := HK1.out; omega⟩, ⟨by (with_reducible repeat (first | apply jH | apply jG | apply jK)); exact HO_15.out⟩, ⟨zb1 HB GE212⟩⟩
      ·rw [if_neg c12] at H
       exact absurd H (by simp)
     ·rw [if_neg c11] at H
      exact absurd H (by simp)
    ·rw [if_neg c10] at H
     have c10b0 : decide (x30_1 < (l2.length : Int)) = false := ja c10
     clear c10
     simp only [je, jg] at H
     obtain ⟨rfl, rfl⟩ := H
     go_wp2
     go_ret2
     exact ⟨_, by first | rfl | (simp [errW_none, errW_some] <;> rfl) | (simp [*, errW_none, errW_some] <;> rfl), by (with_reducible repeat (first | apply jH | apply jG | apply jK)); exact HO_15.out, zb0 HB⟩
 ·rw [if_neg c8] at H
  have c8b0 : (t210 == 0) = false := beq_eq_false_iff_ne.mpr c8
  have c8b1 : (t210 != 0) = true := bne_iff_ne.mpr c8
  simp only [je, jg] at H
  obtain ⟨rfl, rfl⟩ := H
  go_enter Try.func40, Try.ntmps40
  go_wp2_with (first | ((with_reducible refine jN (f := 74) rfl ?_); refine goesL_ (some 24) rfl rfl Try.func74 zr rfl #[.slice A0 l0.length c0, .int .i64 a1, .slice A2 l2.length c2, .int .i64 a3, .int .i64 a4, .slice A5 l5.length c5] rfl zm ?_; (with_reducible refine (impl_stopsAsked.calls k _ _ l0 a1 _ _ l2 a3 a4 _ _ l5 t210 _ ?side1 ?side2 ?side3 ?side4 ?side5 ?side6 A7.out).mono ?_); (case side1 => repeat (first | exact HR0.out | (with_reducible refine jR ?_ _) | (with_reducible refine jQ ?_ _) | (with_reducible refine jS ?_))); (case side2 => exact HC0.out); (case side3 => repeat (first | exact HR2.out | (with_reducible refine jR ?_ _) | (with_reducible refine jQ ?_ _) | (with_reducible refine jS ?_))); (case side4 => exact HC2.out); (case side5 => repeat (first | exact HR5.out | (with_reducible refine jR ?_ _) | (with_reducible refine jQ ?_ _) | (with_reducible refine jS ?_))); (case side6 => exact HC5.out); rintro e w24 ⟨rfl, hb⟩; refine ⟨_, rfl, ?_⟩; have n0_ := jA (jV (zb0 HB) hb); clear HB; have HB := n0_; clear n0_; (try clear hb); (try clear hb2); (try clear hk); (try clear hi)))
  go_ret2
  exact ⟨_, by first | rfl | (simp [errW_none, errW_some] <;> rfl) | (simp [*, errW_none, errW_some] <;> rfl), by first | exact Kd.R_nil _ _ _ _ _ | exact Kd.N_nil _ _ _ _ _ | exact Kd.V_nil _ _ _ _ _ | exact Kd.Q_nil _ _ _ _ _ | exact Kd.S_nil _ _ _ _ _, zb0 HB⟩

/-! ### spec_StoppedCues: function 44 -/
def spec_StoppedCues.f (k : Nat) (l0 : List (S63)) (a1 : Int) (l2 : List (S59)) (a3 : Int) (a4 : Int) (l5 : List Int) : Option (List Int × Int) := (spec_l23Cues.f k l0 a1 l2 a3 a4 l5).bind fun t217 => (if t217 = 0 then ((spec_l23Some.f k l0 l2 a3 a4 l5 true).bind fun t218 => (some (t218, 0))) else (some (([] : List Int), t217)))
theorem spec_StoppedCues.mono : ∀ a0 a1 a2 a3 a4 a5 k, LeO (spec_StoppedCues.f k a0 a1 a2 a3 a4 a5) (spec_StoppedCues.f (k + 1) a0 a1 a2 a3 a4 a5) := by
 intro a0 a1 a2 a3 a4 a5 k
 unfold spec_StoppedCues.f
 repeat' first
   | (with_reducible exact spec_l23Cues.mono _ _ _ _ _ _ _)
   | (with_reducible exact spec_l23Some.mono _ _ _ _ _ _ _)
   | (with_reducible exact LeO.refl _)
   | (with_reducible exact LeO.none _)
   | (with_reducible refine LeO.ite ?_ ?_)
   | (with_reducible refine LeO.bind ?_ (fun _ => ?_))
   | exact spec_l23Cues.mono _ _ _ _ _ _ _
   | exact spec_l23Some.mono _ _ _ _ _ _ _
   | exact LeO.none _
   | refine LeO.ite ?_ ?_
   | refine LeO.bind ?_ (fun _ => ?_)
set_option maxHeartbeats 8000000 in
set_option maxRecDepth 100000 in
theorem spec_StoppedCues.calls (k : Nat) (A0 : Option Addr) (c0 : Nat) (l0 : List (S63)) (a1 : Int) (A2 : Option Addr) (c2 : Nat) (l2 : List (S59)) (a3 : Int) (a4 : Int) (A5 : Option Addr) (c5 : Nat) (l5 : List Int) (r1 : List Int) (r2 : Int) (w : World) (hr0 : Kd.C k63 w A0 l0.length l0) (hc0 : l0.length ≤ c0) (hr2 : Kd.C k59 w A2 l2.length l2) (hc2 : l2.length ≤ c2) (hr5 : Kd.C (Kd.int .i64) w A5 l5.length l5) (hc5 : l5.length ≤ c5) (h : spec_StoppedCues.f k l0 a1 l2 a3 a4 l5 = some (r1, r2)) :
  Calls Try.prog 44 #[.slice A0 l0.length c0, .int .i64 a1, .slice A2 l2.length c2, .int .i64 a3, .int .i64 a4, .slice A5 l5.length c5] w fun e w' => ∃ v0_ : Value, e = .returned (.tuple #[v0_, .int .i64 r2]) ∧ Kd.R (Kd.int .i64) 2 w' w.heap.size (fun _ => True) v0_ r1 ∧ Below w.heap.size w w' := by
 have HR0 := jA hr0
 have HC0 := jA hc0
 clear hr0 hc0
 have HR2 := jA hr2
 have HC2 := jA hc2
 clear hr2 hc2
 have HR5 := jA hr5
 have HC5 := jA hc5
 clear hr5 hc5
 have HB := jA (Below.refl w.heap.size w)
 have H : ((spec_l23Cues.f k l0 a1 l2 a3 a4 l5).bind fun t217 => (if t217 = 0 then ((spec_l23Some.f k l0 l2 a3 a4 l5 true).bind fun t218 => (some (t218, 0))) else (some (([] : List Int), t217)))) = some (r1, r2) := h
 clear h
 replace H := jD.mp H
 obtain ⟨t217, A70, H⟩ := H
 replace H : (if t217 = 0 then ((spec_l23Some.f k l0 l2 a3 a4 l5 true).bind fun t218 => (some (t218, 0))) else (some (([] : List Int), t217))) = some (r1, r2) := H
 have A7 := jA A70
 clear A70
 by_cases c8 : t217 = 0
 ·rw [if_pos c8] at H
  have c8b0 : (t217 == 0) = true := beq_iff_eq.mpr c8
  have c8b1 : (t217 != 0) = false := bne_eq_false_iff_eq.mpr c8
  clear c8
  replace H := jD.mp H
  obtain ⟨t218, A90, H⟩ := H
  replace H : (some (t218, 0)) = some (r1, r2) := H
  have A9 := jA A90
  clear A90
  simp only [je, jg] at H
  obtain ⟨rfl, rfl⟩ := H
  go_enter Try.func44, Try.ntmps44
  go_wp2_with (first | ((with_reducible refine jN (f := 70) rfl ?_); refine goesL_ (some 21) rfl rfl Try.func70 zr rfl #[.slice A0 l0.length c0, .int .i64 a1, .slice A2 l2.length c2, .int .i64 a3, .int .i64 a4, .slice A5 l5.length c5] rfl zm ?_; (with_reducible refine (spec_l23Cues.calls k _ _ l0 a1 _ _ l2 a3 a4 _ _ l5 t217 _ ?side1 ?side2 ?side3 ?side4 ?side5 ?side6 A7.out).mono ?_); (case side1 => repeat (first | exact HR0.out | (with_reducible refine jR ?_ _) | (with_reducible refine jQ ?_ _) | (with_reducible refine jS ?_))); (case side2 => exact HC0.out); (case side3 => repeat (first | exact HR2.out | (with_reducible refine jR ?_ _) | (with_reducible refine jQ ?_ _) | (with_reducible refine jS ?_))); (case side4 => exact HC2.out); (case side5 => repeat (first | exact HR5.out | (with_reducible refine jR ?_ _) | (with_reducible refine jQ ?_ _) | (with_reducible refine jS ?_))); (case side6 => exact HC5.out); rintro e w10 ⟨rfl, hb⟩; refine ⟨_, rfl, ?_⟩; have n0_ := jA (jV (zb0 HB) hb); clear HB; have HB := n0_; clear n0_; (try clear hb); (try clear hb2); (try clear hk); (try clear hi)) | ((with_reducible refine jN (f := 71) rfl ?_); refine goesL_ (some 30) rfl rfl Try.func71 zr rfl #[.slice A0 l0.length c0, .slice A2 l2.length c2, .int .i64 a3, .int .i64 a4, .slice A5 l5.length c5, .bool true] rfl zm ?_; (with_reducible refine (spec_l23Some.calls k _ _ l0 _ _ l2 a3 a4 _ _ l5 true t218 _ ?side1 ?side2 ?side3 ?side4 ?side5 ?side6 A9.out).mono ?_); (case side1 => exact zs HR0 HB); (case side2 => exact HC0.out); (case side3 => exact zs HR2 HB); (case side4 => exact HC2.out); (case side5 => exact zs HR5 HB); (case side6 => exact HC5.out); rintro e w11 ⟨v219, rfl, ho0, hb⟩; refine ⟨_, rfl, ?_⟩; have n0_ := jA (jf ho0 (jY (zb0 HB))); have n1_ := jA (jV (zb0 HB) hb); clear HB; have HO220 := n0_; have HB := n1_; clear n0_ n1_; (try clear hb); (try clear hb2); (try clear hk); (try clear hi); (try clear ho0)))
  go_ret2
  exact ⟨_, by first | rfl | (simp [errW_none, errW_some] <;> rfl) | (simp [*, errW_none, errW_some] <;> rfl), by (with_reducible repeat (first | apply jH | apply jG | apply jK)); exact HO220.out, zb0 HB⟩
 ·rw [if_neg c8] at H
  have c8b0 : (t217 == 0) = false := beq_eq_false_iff_ne.mpr c8
  have c8b1 : (t217 != 0) = true := bne_iff_ne.mpr c8
  simp only [je, jg] at H
  obtain ⟨rfl, rfl⟩ := H
  go_enter Try.func44, Try.ntmps44
  go_wp2_with (first | ((with_reducible refine jN (f := 70) rfl ?_); refine goesL_ (some 21) rfl rfl Try.func70 zr rfl #[.slice A0 l0.length c0, .int .i64 a1, .slice A2 l2.length c2, .int .i64 a3, .int .i64 a4, .slice A5 l5.length c5] rfl zm ?_; (with_reducible refine (spec_l23Cues.calls k _ _ l0 a1 _ _ l2 a3 a4 _ _ l5 t217 _ ?side1 ?side2 ?side3 ?side4 ?side5 ?side6 A7.out).mono ?_); (case side1 => repeat (first | exact HR0.out | (with_reducible refine jR ?_ _) | (with_reducible refine jQ ?_ _) | (with_reducible refine jS ?_))); (case side2 => exact HC0.out); (case side3 => repeat (first | exact HR2.out | (with_reducible refine jR ?_ _) | (with_reducible refine jQ ?_ _) | (with_reducible refine jS ?_))); (case side4 => exact HC2.out); (case side5 => repeat (first | exact HR5.out | (with_reducible refine jR ?_ _) | (with_reducible refine jQ ?_ _) | (with_reducible refine jS ?_))); (case side6 => exact HC5.out); rintro e w12 ⟨rfl, hb⟩; refine ⟨_, rfl, ?_⟩; have n0_ := jA (jV (zb0 HB) hb); clear HB; have HB := n0_; clear n0_; (try clear hb); (try clear hb2); (try clear hk); (try clear hi)))
  go_ret2
  exact ⟨_, by first | rfl | (simp [errW_none, errW_some] <;> rfl) | (simp [*, errW_none, errW_some] <;> rfl), by first | exact Kd.R_nil _ _ _ _ _ | exact Kd.N_nil _ _ _ _ _ | exact Kd.V_nil _ _ _ _ _ | exact Kd.Q_nil _ _ _ _ _ | exact Kd.S_nil _ _ _ _ _, zb0 HB⟩

/-! ### impl_isStopped: function 77 -/
def impl_isStopped.f (k : Nat) (l0 : List (S63)) (a1_0 : Int) (a1_1 : Int) (a1_2 : Int) (a2 : Int) (a3 : Int) (l4 : List Int) : Option (Bool) := if 0 ≤ a1_0 then (if a1_0 < (l4.length : Int) then (if (rd l4 a1_0) ≥ 0 then ((impl_stopTick.f k l0 a2 a3 a1_1).bind fun t223 => (some (decide (t223 ≤ (rd l4 a1_0))))) else (some false)) else (none)) else (none)
theorem impl_isStopped.mono : ∀ a0 a1 a2 a3 a4 a5 a6 k, LeO (impl_isStopped.f k a0 a1 a2 a3 a4 a5 a6) (impl_isStopped.f (k + 1) a0 a1 a2 a3 a4 a5 a6) := by
 intro a0 a1 a2 a3 a4 a5 a6 k
 unfold impl_isStopped.f
 repeat' first
   | (with_reducible exact impl_stopTick.mono _ _ _ _ _)
   | (with_reducible exact LeO.refl _)
   | (with_reducible exact LeO.none _)
   | (with_reducible refine LeO.ite ?_ ?_)
   | (with_reducible refine LeO.bind ?_ (fun _ => ?_))
   | exact impl_stopTick.mono _ _ _ _ _
   | exact LeO.none _
   | refine LeO.ite ?_ ?_
   | refine LeO.bind ?_ (fun _ => ?_)
set_option maxHeartbeats 8000000 in
set_option maxRecDepth 100000 in
theorem impl_isStopped.calls (k : Nat) (A0 : Option Addr) (c0 : Nat) (l0 : List (S63)) (a1_0 : Int) (a1_1 : Int) (a1_2 : Int) (a2 : Int) (a3 : Int) (A4 : Option Addr) (c4 : Nat) (l4 : List Int) (r : Bool) (w : World) (hr0 : Kd.C k63 w A0 l0.length l0) (hc0 : l0.length ≤ c0) (hr4 : Kd.C (Kd.int .i64) w A4 l4.length l4) (hc4 : l4.length ≤ c4) (h : impl_isStopped.f k l0 a1_0 a1_1 a1_2 a2 a3 l4 = some r) :
  Calls Try.prog 77 #[.slice A0 l0.length c0, .agg #[.int .i64 a1_0, .int .i64 a1_1, .int .i64 a1_2], .int .i64 a2, .int .i64 a3, .slice A4 l4.length c4] w fun e w' => e = .returned (.bool r) ∧ Below w.heap.size w w' := by
 have hu59 := Try.underlying59
 have HR0 := jA hr0
 have HC0 := jA hc0
 clear hr0 hc0
 have HR4 := jA hr4
 have HC4 := jA hc4
 clear hr4 hc4
 have HB := jA (Below.refl w.heap.size w)
 have H : (if 0 ≤ a1_0 then (if a1_0 < (l4.length : Int) then (if (rd l4 a1_0) ≥ 0 then ((impl_stopTick.f k l0 a2 a3 a1_1).bind fun t223 => (some (decide (t223 ≤ (rd l4 a1_0))))) else (some false)) else (none)) else (none)) = some r := h
 clear h
 by_cases c6 : 0 ≤ a1_0
 ·rw [if_pos c6] at H
  have c6b0 : decide (0 ≤ a1_0) = true := jP c6
  clear c6
  by_cases c7 : a1_0 < (l4.length : Int)
  ·rw [if_pos c7] at H
   have c7b0 : decide (a1_0 < (l4.length : Int)) = true := jP c7
   clear c7
   by_cases c8 : (rd l4 a1_0) ≥ 0
   ·rw [if_pos c8] at H
    have c8b0 : decide (0 ≤ (rd l4 a1_0)) = true := jP c8
    clear c8
    replace H := jD.mp H
    obtain ⟨t223, A90, H⟩ := H
    replace H : (some (decide (t223 ≤ (rd l4 a1_0)))) = some r := H
    have A9 := jA A90
    clear A90
    obtain rfl := jW H
    go_enter Try.func77, Try.ntmps77
    go_wp2_with (first | ((with_reducible refine gate_dst (N := 6) rfl ?_); refine box_event ?hg (N := 6) ?hd (cs := #[.int .i64 a1_0, .int .i64 a1_1, .int .i64 a1_2]) (t := 59) ?hr ?_; (case hd => rfl); (case hg => rfl); (case hr => first | (go_simp; done) | (go_simp; rfl)); intro gb221 hg w10 hbox hb; have n0_ := jA (jV (zb0 HB) hb); have n1_ := jA (hbox); have n2_ := jA ((by rw [hg]; exact (jY (zb0 HB)) : w.heap.size ≤ gb221)); have n3_ := jA ((by rw [hg]; exact (jY (zb0 HB)) : w.heap.size ≤ gb221)); clear HB; have HB := n0_; have BK221 := n1_; have GW221 := n2_; have GE221 := n3_; clear n0_ n1_ n2_ n3_; clear hb hbox hg; have hcz11_0 : w10.cell? ⟨gb221, 0, none⟩ = some (.int .i64 a1_0) := (jF BK221.out 0).trans rfl; have hcz11_1 : w10.cell? ⟨gb221, 1, none⟩ = some (.int .i64 a1_1) := (jF BK221.out 1).trans rfl; have hcz11_2 : w10.cell? ⟨gb221, 2, none⟩ = some (.int .i64 a1_2) := (jF BK221.out 2).trans rfl; have hfz11_0 := jX BK221.out 0; have hfz11_1 := jX BK221.out 1; have hfz11_2 := jX BK221.out 2; have p222 : 0 ≤ (a1_0 : Int) := jB za; have q222 : a1_0 < (l4.length : Int) := jB za; obtain ⟨ad222, e222, hx222_0⟩ := jh HR4.out a1_0 p222 q222; cases e222; replace hx222_0 := (HB.out.cell (jC w _ hx222_0)).trans hx222_0; replace p222 := eq_true p222; replace q222 := eq_true q222) | (go_at_call 62; (with_reducible refine (impl_stopTick.calls k _ _ l0 a2 a3 a1_1 t223 _ ?side1 ?side2 A9.out).mono ?_); (case side1 => exact zs HR0 HB); (case side2 => exact HC0.out); rintro e w12 ⟨rfl, hb⟩; have n0_ := jA (blk_below (g := gb221) (o := .cells #[.int .i64 a1_0, .int .i64 a1_1, .int .i64 a1_2] 59 (0, 0)) (zk BK221) hb); have n1_ := jA (jV (zb1 HB GE221) hb); clear BK221; clear HB; have BK221 := n0_; have HB := n1_; clear n0_ n1_; (try clear hb); (try clear hb2); (try clear hk); (try clear hi)))
    go_ret
    exact ⟨by first | rfl | (simp [errW_none, errW_some] <;> rfl) | (simp [*, errW_none, errW_some] <;> rfl), zb1 HB GE221⟩
   ·rw [if_neg c8] at H
    have c8b0 : decide (0 ≤ (rd l4 a1_0)) = false := ja c8
    clear c8
    obtain rfl := jW H
    go_enter Try.func77, Try.ntmps77
    go_wp2_with (first | ((with_reducible refine gate_dst (N := 6) rfl ?_); refine box_event ?hg (N := 6) ?hd (cs := #[.int .i64 a1_0, .int .i64 a1_1, .int .i64 a1_2]) (t := 59) ?hr ?_; (case hd => rfl); (case hg => rfl); (case hr => first | (go_simp; done) | (go_simp; rfl)); intro gb221 hg w13 hbox hb; have n0_ := jA (jV (zb0 HB) hb); have n1_ := jA (hbox); have n2_ := jA ((by rw [hg]; exact (jY (zb0 HB)) : w.heap.size ≤ gb221)); have n3_ := jA ((by rw [hg]; exact (jY (zb0 HB)) : w.heap.size ≤ gb221)); clear HB; have HB := n0_; have BK221 := n1_; have GW221 := n2_; have GE221 := n3_; clear n0_ n1_ n2_ n3_; clear hb hbox hg; have hcz14_0 : w13.cell? ⟨gb221, 0, none⟩ = some (.int .i64 a1_0) := (jF BK221.out 0).trans rfl; have hcz14_1 : w13.cell? ⟨gb221, 1, none⟩ = some (.int .i64 a1_1) := (jF BK221.out 1).trans rfl; have hcz14_2 : w13.cell? ⟨gb221, 2, none⟩ = some (.int .i64 a1_2) := (jF BK221.out 2).trans rfl; have hfz14_0 := jX BK221.out 0; have hfz14_1 := jX BK221.out 1; have hfz14_2 := jX BK221.out 2; have p222 : 0 ≤ (a1_0 : Int) := jB za; have q222 : a1_0 < (l4.length : Int) := jB za; obtain ⟨ad222, e222, hx222_0⟩ := jh HR4.out a1_0 p222 q222; cases e222; replace hx222_0 := (HB.out.cell (jC w _ hx222_0)).trans hx222_0; replace p222 := eq_true p222; replace q222 := eq_true q222))
    go_ret
    exact ⟨by first | rfl | (simp [errW_none, errW_some] <;> rfl) | (simp [*, errW_none, errW_some] <;> rfl), zb1 HB GE221⟩
  ·rw [if_neg c7] at H
   exact absurd H (by simp)
 ·rw [if_neg c6] at H
  exact absurd H (by simp)

end Go.Proofs.Ytddejaomlnldiaa.PFnStops
