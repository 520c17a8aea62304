/- Functions and contracts that FnStops reaches (4 of 14). -/
import Derived.Test.YtddejaomlnldiaaQFnStopsx2
namespace Go.Proofs.Ytddejaomlnldiaa.PFnStops
open Go.RowKit Go.Proofs.YtddejaomlnldiaaW.PrintWords Go.Proofs.YtddejaomlnldiaaW.PrintLast Go.Proofs.YtddejaomlnldiaaW.PrintMore
attribute [local go_sem] max2_int min2_int max_two min_two max_three min_three max_four min_four   -- for this text's walks alone
set_option linter.unusedVariables false
set_option linter.unusedSimpArgs false

/-! ### spec_l23Cues: function 70 -/
def spec_l23Cues.l0 : Nat → Int → List Int → Int → Int → Option (Int)
 | 0, _, _, _, _ => none
 | k + 1, x1, x5, x13, x14 => if x14 < (x5.length : Int) then (if 0 ≤ x14 then ((spec_l01In.f (rd x5 x14) (-1) 100000).bind fun t153 => (if t153 = true then (spec_l23Cues.l0 k x1 x5 x13 (wrap64 (x14 + 1))) else (spec_l23Cues.l0 k x1 x5 2 (wrap64 (x14 + 1))))) else (none)) else (if (x5.length : Int) = x1 then (some x13) else (some 2))
def spec_l23Cues.f (k : Nat) (l0 : List (S63)) (a1 : Int) (l2 : List (S59)) (a3 : Int) (a4 : Int) (l5 : List Int) : Option (Int) := (spec_AreWires.f k l0 a1 l2).bind fun t150 => (if t150 = true then ((spec_l23Code.f k l0 a3 a4 0).bind fun t151 => (spec_l23Cues.l0 k a1 l5 t151 0)) else (some 1))
theorem spec_l23Cues.mono_l : ∀ k, (∀ y0 y1 y2 y3, LeO (spec_l23Cues.l0 k y0 y1 y2 y3) (spec_l23Cues.l0 (k + 1) y0 y1 y2 y3))
 | 0 => fun _ _ _ _ r h => by simp [spec_l23Cues.l0] at h
 | k + 1 => by
  have ih0 := spec_l23Cues.mono_l k
  ·intro y0 y1 y2 y3
   unfold spec_l23Cues.l0
   repeat' first
   | (with_reducible exact ih0 _ _ _ _)
   | (with_reducible exact spec_AreWires.mono _ _ _ _)
   | (with_reducible exact spec_l23Code.mono _ _ _ _ _)
   | (with_reducible exact LeO.refl _)
   | (with_reducible exact LeO.none _)
   | (with_reducible refine LeO.ite ?_ ?_)
   | (with_reducible refine LeO.bind ?_ (fun _ => ?_))
   | exact ih0 _ _ _ _
   | exact spec_AreWires.mono _ _ _ _
   | exact spec_l23Code.mono _ _ _ _ _
   | exact LeO.none _
   | refine LeO.ite ?_ ?_
   | refine LeO.bind ?_ (fun _ => ?_)
theorem spec_l23Cues.mono : ∀ a0 a1 a2 a3 a4 a5 k, LeO (spec_l23Cues.f k a0 a1 a2 a3 a4 a5) (spec_l23Cues.f (k + 1) a0 a1 a2 a3 a4 a5) := by
 intro a0 a1 a2 a3 a4 a5 k
 have ih0 := spec_l23Cues.mono_l k
 unfold spec_l23Cues.f
 repeat' first
   | (with_reducible exact ih0 _ _ _ _)
   | (with_reducible exact spec_AreWires.mono _ _ _ _)
   | (with_reducible exact spec_l23Code.mono _ _ _ _ _)
   | (with_reducible exact LeO.refl _)
   | (with_reducible exact LeO.none _)
   | (with_reducible refine LeO.ite ?_ ?_)
   | (with_reducible refine LeO.bind ?_ (fun _ => ?_))
   | exact ih0 _ _ _ _
   | exact spec_AreWires.mono _ _ _ _
   | exact spec_l23Code.mono _ _ _ _ _
   | exact LeO.none _
   | refine LeO.ite ?_ ?_
   | refine LeO.bind ?_ (fun _ => ?_)
set_option maxHeartbeats 8000000 in
set_option maxRecDepth 100000 in
theorem spec_l23Cues.calls (k : Nat) (A0 : Option Addr) (c0 : Nat) (l0 : List (S63)) (a1 : Int) (A2 : Option Addr) (c2 : Nat) (l2 : List (S59)) (a3 : Int) (a4 : Int) (A5 : Option Addr) (c5 : Nat) (l5 : List Int) (r : Int) (w : World) (hr0 : Kd.C k63 w A0 l0.length l0) (hc0 : l0.length ≤ c0) (hr2 : Kd.C k59 w A2 l2.length l2) (hc2 : l2.length ≤ c2) (hr5 : Kd.C (Kd.int .i64) w A5 l5.length l5) (hc5 : l5.length ≤ c5) (h : spec_l23Cues.f k l0 a1 l2 a3 a4 l5 = some r) :
  Calls Try.prog 70 #[.slice A0 l0.length c0, .int .i64 a1, .slice A2 l2.length c2, .int .i64 a3, .int .i64 a4, .slice A5 l5.length c5] w fun e w' => e = .returned (.int .i64 r) ∧ Below w.heap.size w w' := by
 have HR0 := jA hr0
 have HC0 := jA hc0
 clear hr0 hc0
 have HR2 := jA hr2
 have HC2 := jA hc2
 clear hr2 hc2
 have HR5 := jA hr5
 have HC5 := jA hc5
 clear hr5 hc5
 have HB := jA (Below.refl w.heap.size w)
 have H : ((spec_AreWires.f k l0 a1 l2).bind fun t150 => (if t150 = true then ((spec_l23Code.f k l0 a3 a4 0).bind fun t151 => (spec_l23Cues.l0 k a1 l5 t151 0)) else (some 1))) = some r := h
 clear h
 replace H := jD.mp H
 obtain ⟨t150, A70, H⟩ := H
 replace H : (if t150 = true then ((spec_l23Code.f k l0 a3 a4 0).bind fun t151 => (spec_l23Cues.l0 k a1 l5 t151 0)) else (some 1)) = some r := H
 have A7 := jA A70
 clear A70
 by_cases c8 : t150 = true
 ·subst c8
  have H1 : ((spec_l23Code.f k l0 a3 a4 0).bind fun t151 => (spec_l23Cues.l0 k a1 l5 t151 0)) = some r := by rw [if_pos rfl] at H; exact H
  clear H
  have H := H1
  clear H1
  replace H := jD.mp H
  obtain ⟨t151, A90, H⟩ := H
  replace H : (spec_l23Cues.l0 k a1 l5 t151 0) = some r := H
  have A9 := jA A90
  clear A90
  have H' := jA H
  clear H
  go_enter Try.func70, Try.ntmps70
  go_wp2_with (first | ((with_reducible refine jN (f := 85) rfl ?_); refine goesL_ (some 18) rfl rfl Try.func85 zr rfl #[.slice A0 l0.length c0, .int .i64 a1, .slice A2 l2.length c2] rfl zm ?_; (with_reducible refine (spec_AreWires.calls k _ _ l0 a1 _ _ l2 true _ ?side1 ?side2 ?side3 ?side4 A7.out).mono ?_); (case side1 => repeat (first | exact HR0.out | (with_reducible refine jR ?_ _) | (with_reducible refine jQ ?_ _) | (with_reducible refine jS ?_))); (case side2 => exact HC0.out); (case side3 => repeat (first | exact HR2.out | (with_reducible refine jR ?_ _) | (with_reducible refine jQ ?_ _) | (with_reducible refine jS ?_))); (case side4 => exact HC2.out); rintro e w10 ⟨rfl, hb⟩; refine ⟨_, rfl, ?_⟩; have n0_ := jA (jV (zb0 HB) hb); clear HB; have HB := n0_; clear n0_; (try clear hb); (try clear hb2); (try clear hk); (try clear hi)) | ((with_reducible refine jN (f := 49) rfl ?_); refine goesL_ (some 23) rfl rfl Try.func49 zr rfl #[.slice A0 l0.length c0, .int .i64 a3, .int .i64 a4, .int .i64 0] rfl zm ?_; (with_reducible refine (spec_l23Code.calls k _ _ l0 a3 a4 0 t151 _ ?side1 ?side2 A9.out).mono ?_); (case side1 => exact zs HR0 HB); (case side2 => exact HC0.out); rintro e w' ⟨rfl, ⟨nd, rfl⟩⟩; refine ⟨_, rfl, ?_⟩))
  go_loopg [13, 14] k (fun kq v13 v14 w' => ∃ (x13_1 : Int) (x14_1 : Int), v13 = .int .i64 x13_1 ∧ v14 = .int .i64 x14_1 ∧ Aside0 (spec_l23Cues.l0 kq a1 l5 x13_1 x14_1 = some r) ∧ Aside0 (kq ≤ k) ∧ Aside0 (Below w.heap.size w w'))
  case atStart => exact ⟨(t151), (0), zz, zz, H', ⟨Nat.le_refl _⟩, ⟨zb0 HB⟩⟩
  case round =>
   clear H'
   try clear c2
   try clear p2
   try clear c4
   try clear c5
   try clear c7
   try clear c8
   obtain ⟨x13_1, x14_1, rfl, rfl, HA, HK1, HB⟩ := hrel
   cases gk with
   | zero => exact absurd HA.out (by simp [spec_l23Cues.l0])
   | succ k1 =>
    have H := HA.out
    clear HA
    simp only [spec_l23Cues.l0] at H
    by_cases c11 : x14_1 < (l5.length : Int)
    ·rw [if_pos c11] at H
     have c11b0 : decide (x14_1 < (l5.length : Int)) = true := jP c11
     clear c11
     by_cases c12 : 0 ≤ x14_1
     ·rw [if_pos c12] at H
      have c12b0 : decide (0 ≤ x14_1) = true := jP c12
      clear c12
      replace H := jD.mp H
      obtain ⟨t153, A130, H⟩ := H
      replace H : (if t153 = true then (spec_l23Cues.l0 k1 a1 l5 x13_1 (wrap64 (x14_1 + 1))) else (spec_l23Cues.l0 k1 a1 l5 2 (wrap64 (x14_1 + 1)))) = some r := H
      have A13 := jA A130
      clear A130
      by_cases c14 : t153 = true
      ·subst c14
       have H1 : (spec_l23Cues.l0 k1 a1 l5 x13_1 (wrap64 (x14_1 + 1))) = some r := by rw [if_pos rfl] at H; exact H
       clear H
       have H := H1
       clear H1
       have H' := jA H
       clear H
       have p152 : 0 ≤ (x14_1 : Int) := jB za
       have q152 : x14_1 < (l5.length : Int) := jB za
       obtain ⟨ad152, e152, hx152_0⟩ := jh HR5.out x14_1 p152 q152
       cases e152
       replace hx152_0 := (HB.out.cell (jC w _ hx152_0)).trans hx152_0
       replace p152 := eq_true p152
       replace q152 := eq_true q152
       go_wp2_with (first | ((with_reducible refine jN (f := 60) rfl ?_); refine goesL_ (some 34) rfl rfl Try.func60 zr rfl #[.int .i64 (rd l5 x14_1), .int .i64 (-1), .int .i64 100000] rfl zm ?_; (with_reducible refine (spec_l01In.calls (rd l5 x14_1) (-1) 100000 true _ A13.out).mono ?_); rintro e w' ⟨rfl, ⟨nd, rfl⟩⟩; refine ⟨_, rfl, ?_⟩))
       go_roundg k1
       case measure => have := HK1.out; omega
       case rel => exact ⟨(x13_1), (wrap64 (x14_1 + 1)), zz, zz, H', ⟨by have := HK1.out; omega⟩, ⟨zb0 HB⟩⟩
      ·replace c14 := Bool.eq_false_iff.mpr c14
       subst c14
       have H1 : (spec_l23Cues.l0 k1 a1 l5 2 (wrap64 (x14_1 + 1))) = some r := by rw [if_neg (show ¬ (false = true) by decide)] at H; exact H
       clear H
       have H := H1
       clear H1
       have H' := jA H
       clear H
       have p152 : 0 ≤ (x14_1 : Int) := jB za
       have q152 : x14_1 < (l5.length : Int) := jB za
       obtain ⟨ad152, e152, hx152_0⟩ := jh HR5.out x14_1 p152 q152
       cases e152
       replace hx152_0 := (HB.out.cell (jC w _ hx152_0)).trans hx152_0
       replace p152 := eq_true p152
       replace q152 := eq_true q152
       go_wp2_with (first | ((with_reducible refine jN (f := 60) rfl ?_); refine goesL_ (some 34) rfl rfl Try.func60 zr rfl #[.int .i64 (rd l5 x14_1), .int .i64 (-1), .int .i64 100000] rfl zm ?_; (with_reducible refine (spec_l01In.calls (rd l5 x14_1) (-1) 100000 false _ A13.out).mono ?_); rintro e w' ⟨rfl, ⟨nd, rfl⟩⟩; refine ⟨_, rfl, ?_⟩))
       go_roundg k1
       case measure => have := HK1.out; omega
       case rel => exact ⟨(2), (wrap64 (x14_1 + 1)), zz, zz, H', ⟨by have := HK1.out; omega⟩, ⟨zb0 HB⟩⟩
     ·rw [if_neg c12] at H
      exact absurd H (by simp)
    ·rw [if_neg c11] at H
     have c11b0 : decide (x14_1 < (l5.length : Int)) = false := ja c11
     clear c11
     by_cases c15 : (l5.length : Int) = a1
     ·rw [if_pos c15] at H
      have c15b0 : ((l5.length : Int) == a1) = true := beq_iff_eq.mpr c15
      have c15b1 : ((l5.length : Int) != a1) = false := bne_eq_false_iff_eq.mpr c15
      clear c15
      obtain rfl := jW H
      go_wp2
      go_ret
      exact ⟨by first | rfl | (simp [errW_none, errW_some] <;> rfl) | (simp [*, errW_none, errW_some] <;> rfl), zb0 HB⟩
     ·rw [if_neg c15] at H
      have c15b0 : ((l5.length : Int) == a1) = false := beq_eq_false_iff_ne.mpr c15
      have c15b1 : ((l5.length : Int) != a1) = true := bne_iff_ne.mpr c15
      obtain rfl := jW H
      go_wp2
      go_ret
      exact ⟨by first | rfl | (simp [errW_none, errW_some] <;> rfl) | (simp [*, errW_none, errW_some] <;> rfl), zb0 HB⟩
 ·replace c8 := Bool.eq_false_iff.mpr c8
  subst c8
  have H1 : (some 1) = some r := by rw [if_neg (show ¬ (false = true) by decide)] at H; exact H
  clear H
  have H := H1
  clear H1
  obtain rfl := jW H
  go_enter Try.func70, Try.ntmps70
  go_wp2_with (first | ((with_reducible refine jN (f := 85) rfl ?_); refine goesL_ (some 18) rfl rfl Try.func85 zr rfl #[.slice A0 l0.length c0, .int .i64 a1, .slice A2 l2.length c2] rfl zm ?_; (with_reducible refine (spec_AreWires.calls k _ _ l0 a1 _ _ l2 false _ ?side1 ?side2 ?side3 ?side4 A7.out).mono ?_); (case side1 => repeat (first | exact HR0.out | (with_reducible refine jR ?_ _) | (with_reducible refine jQ ?_ _) | (with_reducible refine jS ?_))); (case side2 => exact HC0.out); (case side3 => repeat (first | exact HR2.out | (with_reducible refine jR ?_ _) | (with_reducible refine jQ ?_ _) | (with_reducible refine jS ?_))); (case side4 => exact HC2.out); rintro e w16 ⟨rfl, hb⟩; refine ⟨_, rfl, ?_⟩; have n0_ := jA (jV (zb0 HB) hb); clear HB; have HB := n0_; clear n0_; (try clear hb); (try clear hb2); (try clear hk); (try clear hi)))
  go_ret
  exact ⟨by first | rfl | (simp [errW_none, errW_some] <;> rfl) | (simp [*, errW_none, errW_some] <;> rfl), zb0 HB⟩

/-! ### spec_l12Way: function 82 -/
def spec_l12Way.l0 : Nat → List (S63) → Int → List Int → Option (List Int)
 | 0, _, _, _ => none
 | k + 1, x0, x1, x5 => if x1 ≥ 0 then (if x5.length < 17592186044416 then (if 0 ≤ x1 then (if x1 < (x0.length : Int) then (spec_l12Way.l0 k x0 ((rd_T63 x0 x1).f0) (x5 ++ [x1])) else (none)) else (none)) else (none)) else (some x5)
def spec_l12Way.f (k : Nat) (l0 : List (S63)) (a1 : Int) : Option (List Int) := spec_l12Way.l0 k l0 a1 (([] : List Int))
theorem spec_l12Way.mono_l : ∀ k, (∀ y0 y1 y2, LeO (spec_l12Way.l0 k y0 y1 y2) (spec_l12Way.l0 (k + 1) y0 y1 y2))
 | 0 => fun _ _ _ r h => by simp [spec_l12Way.l0] at h
 | k + 1 => by
  have ih0 := spec_l12Way.mono_l k
  ·intro y0 y1 y2
   unfold spec_l12Way.l0
   repeat' first
   | (with_reducible exact ih0 _ _ _)
   | (with_reducible exact LeO.refl _)
   | (with_reducible exact LeO.none _)
   | (with_reducible refine LeO.ite ?_ ?_)
   | (with_reducible refine LeO.bind ?_ (fun _ => ?_))
   | exact ih0 _ _ _
   | exact LeO.none _
   | refine LeO.ite ?_ ?_
   | refine LeO.bind ?_ (fun _ => ?_)
theorem spec_l12Way.mono : ∀ a0 a1 k, LeO (spec_l12Way.f k a0 a1) (spec_l12Way.f (k + 1) a0 a1) := by
 intro a0 a1 k
 have ih0 := spec_l12Way.mono_l k
 unfold spec_l12Way.f
 repeat' first
   | (with_reducible exact ih0 _ _ _)
   | (with_reducible exact LeO.refl _)
   | (with_reducible exact LeO.none _)
   | (with_reducible refine LeO.ite ?_ ?_)
   | (with_reducible refine LeO.bind ?_ (fun _ => ?_))
   | exact ih0 _ _ _
   | exact LeO.none _
   | refine LeO.ite ?_ ?_
   | refine LeO.bind ?_ (fun _ => ?_)
set_option maxHeartbeats 8000000 in
set_option maxRecDepth 100000 in
theorem spec_l12Way.calls (k : Nat) (A0 : Option Addr) (c0 : Nat) (l0 : List (S63)) (a1 : Int) (r : List Int) (w : World) (hr0 : Kd.C k63 w A0 l0.length l0) (hc0 : l0.length ≤ c0) (h : spec_l12Way.f k l0 a1 = some r) :
  Calls Try.prog 82 #[.slice A0 l0.length c0, .int .i64 a1] w fun e w' => ∃ v0_ : Value, e = .returned (v0_) ∧ Kd.R (Kd.int .i64) 2 w' w.heap.size (fun _ => True) v0_ r ∧ Below w.heap.size w w' := by
 have HR0 := jA hr0
 have HC0 := jA hc0
 clear hr0 hc0
 have HB := jA (Below.refl w.heap.size w)
 have H : (spec_l12Way.l0 k l0 a1 (([] : List Int))) = some r := h
 clear h
 obtain ⟨y154, hy154⟩ : ∃ y_ : List Int, y_ = (([] : List Int)) := ⟨_, rfl⟩
 replace H : (spec_l12Way.l0 k l0 a1 y154) = some r := by first | (rw [hy154]; with_reducible exact H) | (have H2_ := (Option.bind_some _ _).symm.trans H; rw [hy154]; with_reducible exact H2_) | (have H2_ := (Option.bind_some _ _).symm.trans H; with_reducible exact H2_) | with_reducible exact H | (rw [hy154]; exact H) | exact H
 have Ny154 := jA hy154
 clear hy154
 have H' := jA H
 clear H
 go_enter Try.func82, Try.ntmps82
 go_wp2_with (first | ((with_reducible refine gate_dst (N := 6) rfl ?_); refine Kd.R_lit (Kd.int .i64) _ 2 ?hg (N := 6) ?hd (xs := ([] : List Int)) (inner := []) (ok := fun _ => True) (okp := fun _ => True) ?hr ?hp (fun _ hk => hk) trivial (Below.refl _ _) (Nat.le_refl _) (by simp) ?_; (case hd => rfl); (case hg => rfl); (case hr => first | (go_simp; done) | (go_simp; rfl)); (case hp => exact (Reps.none _ _)); intro v155 w3 ho4 hb hg_ hnew_; clear hg_ hnew_; (first | rw [← Ny154.out] at ho4 | (simp only [Int.reduceToNat] at ho4; rw [← Ny154.out] at ho4)); have n0_ := jA (jf ho4 (jY (zb0 HB))); have n1_ := jA (jV (zb0 HB) hb); clear HB; have HO156 := n0_; have HB := n1_; clear n0_ n1_; clear hb ho4))
 go_loopg [1, 5] k (fun kq v1 v5 w' => ∃ (x1_1 : Int) (x5_1 : List Int), v1 = .int .i64 x1_1 ∧ Aside0 (spec_l12Way.l0 kq l0 x1_1 x5_1 = some r) ∧ Aside0 (kq ≤ k) ∧ Aside0 (Kd.R (Kd.int .i64) 2 w' w.heap.size (fun _ => True) v5 x5_1) ∧ Aside0 (Below w.heap.size w w'))
 case atStart => exact ⟨(a1), (y154), zz, H', ⟨Nat.le_refl _⟩, ⟨by (with_reducible repeat (first | apply jH | apply jG | apply jK)); exact HO156.out⟩, ⟨zb0 HB⟩⟩
 case round =>
  clear H'
  try clear p2
  obtain ⟨x1_1, x5_1, rfl, HA, HK1, HO_5, HB⟩ := hrel
  cases gk with
  | zero => exact absurd HA.out (by simp [spec_l12Way.l0])
  | succ k1 =>
   have H := HA.out
   clear HA
   simp only [spec_l12Way.l0] at H
   by_cases c5 : x1_1 ≥ 0
   ·rw [if_pos c5] at H
    have c5b0 : decide (0 ≤ x1_1) = true := jP c5
    clear c5
    by_cases c6 : x5_1.length < 17592186044416
    ·rw [if_pos c6] at H
     have LMc6 := jA c6
     clear c6
     obtain ⟨y157, hy157⟩ : ∃ y_ : List Int, y_ = (x5_1 ++ [x1_1]) := ⟨_, rfl⟩
     replace H : (if 0 ≤ x1_1 then (if x1_1 < (l0.length : Int) then (spec_l12Way.l0 k1 l0 ((rd_T63 l0 x1_1).f0) y157) else (none)) else (none)) = some r := by first | (rw [hy157]; with_reducible exact H) | (have H2_ := (Option.bind_some _ _).symm.trans H; rw [hy157]; with_reducible exact H2_) | (have H2_ := (Option.bind_some _ _).symm.trans H; with_reducible exact H2_) | with_reducible exact H | (rw [hy157]; exact H) | exact H
     have Ny157 := jA hy157
     clear hy157
     by_cases c7 : 0 ≤ x1_1
     ·rw [if_pos c7] at H
      have c7b0 : decide (0 ≤ x1_1) = true := jP c7
      clear c7
      by_cases c8 : x1_1 < (l0.length : Int)
      ·rw [if_pos c8] at H
       have c8b0 : decide (x1_1 < (l0.length : Int)) = true := jP c8
       clear c8
       have H' := jA H
       clear H
       go_wp2_with (first | ((with_reducible refine gate_builtin (b := .append) (xs := #[.tmp 9, .tmp 11]) rfl ?_); at_builtin; refine Kd.R_append (Kd.int .i64) (w0 := w) w.heap.size rfl (.tmp 9) (.tmp 11) 32 2 (.int .i64 0) 8 rfl Try.underlying32 info2 rfl (by decide) (by omega) u5 x5_1 x1_1 [.int .i64 x1_1] (fun _ => True) (fun _ => False) rfl rfl ?aP (fun _ hk => hk.elim) ?aF ?aO ?aB ?aS ?aL ?_; (case aP => exact rfl); (case aB => exact (zb0 HB)); (case aF => exact (fun _ _ => trivial)); (case aO => exact (zo HO_5)); (case aS => exact (jY (zb0 HB))); (case aL => have := LMc6.out; omega); intro v158 w9 ho hb hg hat; rw [← Ny157.out] at ho; have n0_ := jA (hb); have n1_ := jA (ho); clear HB; clear HO_5; have HB := n0_; have HO159 := n1_; clear n0_ n1_; clear ho hb hg hat; have p160 : 0 ≤ (x1_1 : Int) := jB za; have q160 : x1_1 < (l0.length : Int) := jB za; obtain ⟨ad160, e160, hx160_0, hx160_1⟩ := at_T63 HR0.out x1_1 p160 q160; cases e160; replace hx160_0 := (HB.out.cell (jC w _ hx160_0)).trans hx160_0; replace hx160_1 := (HB.out.cell (jC w _ hx160_1)).trans hx160_1; replace p160 := eq_true p160; replace q160 := eq_true q160))
       go_roundg k1
       case measure => have := HK1.out; omega
       case rel => exact ⟨((rd_T63 l0 x1_1).f0), (y157), zz, H', ⟨by have := HK1.out; omega⟩, ⟨by (with_reducible repeat (first | apply jH | apply jG | apply jK)); exact HO159.out⟩, ⟨zb0 HB⟩⟩
      ·rw [if_neg c8] at H
       exact absurd H (by simp)
     ·rw [if_neg c7] at H
      exact absurd H (by simp)
    ·rw [if_neg c6] at H
     exact absurd H (by simp)
   ·rw [if_neg c5] at H
    have c5b0 : decide (0 ≤ x1_1) = false := ja c5
    clear c5
    obtain rfl := jW H
    go_wp2
    go_ret
    exact ⟨_, by first | rfl | (simp [errW_none, errW_some] <;> rfl) | (simp [*, errW_none, errW_some] <;> rfl), by (with_reducible repeat (first | apply jH | apply jG | apply jK)); exact HO_5.out, zb0 HB⟩

/-! ### spec_l23Tick: function 50 -/
def spec_l23Tick.f (k : Nat) (l0 : List (S63)) (a1 : Int) (a2 : Int) (a3 : Int) : Option (Int) := (spec_l12Way.f k l0 a3).bind fun t161 => (some (wrap64 (a2 + (wrap64 (a1 * (wrap64 ((t161.length : Int) - 1)))))))
theorem spec_l23Tick.mono : ∀ a0 a1 a2 a3 k, LeO (spec_l23Tick.f k a0 a1 a2 a3) (spec_l23Tick.f (k + 1) a0 a1 a2 a3) := by
 intro a0 a1 a2 a3 k
 unfold spec_l23Tick.f
 repeat' first
   | (with_reducible exact spec_l12Way.mono _ _ _)
   | (with_reducible exact LeO.refl _)
   | (with_reducible exact LeO.none _)
   | (with_reducible refine LeO.ite ?_ ?_)
   | (with_reducible refine LeO.bind ?_ (fun _ => ?_))
   | exact spec_l12Way.mono _ _ _
   | exact LeO.none _
   | refine LeO.ite ?_ ?_
   | refine LeO.bind ?_ (fun _ => ?_)
set_option maxHeartbeats 8000000 in
set_option maxRecDepth 100000 in
theorem spec_l23Tick.calls (k : Nat) (A0 : Option Addr) (c0 : Nat) (l0 : List (S63)) (a1 : Int) (a2 : Int) (a3 : Int) (r : Int) (w : World) (hr0 : Kd.C k63 w A0 l0.length l0) (hc0 : l0.length ≤ c0) (h : spec_l23Tick.f k l0 a1 a2 a3 = some r) :
  Calls Try.prog 50 #[.slice A0 l0.length c0, .int .i64 a1, .int .i64 a2, .int .i64 a3] w fun e w' => e = .returned (.int .i64 r) ∧ Below w.heap.size w w' := by
 have HR0 := jA hr0
 have HC0 := jA hc0
 clear hr0 hc0
 have HB := jA (Below.refl w.heap.size w)
 have H : ((spec_l12Way.f k l0 a3).bind fun t161 => (some (wrap64 (a2 + (wrap64 (a1 * (wrap64 ((t161.length : Int) - 1)))))))) = some r := h
 clear h
 replace H := jD.mp H
 obtain ⟨t161, A50, H⟩ := H
 replace H : (some (wrap64 (a2 + (wrap64 (a1 * (wrap64 ((t161.length : Int) - 1))))))) = some r := H
 have A5 := jA A50
 clear A50
 obtain rfl := jW H
 go_enter Try.func50, Try.ntmps50
 go_wp2_with (first | ((with_reducible refine jN (f := 82) rfl ?_); refine goesL_ (some 13) rfl rfl Try.func82 zr rfl #[.slice A0 l0.length c0, .int .i64 a3] rfl zm ?_; (with_reducible refine (spec_l12Way.calls k _ _ l0 a3 t161 _ ?side1 ?side2 A5.out).mono ?_); (case side1 => repeat (first | exact HR0.out | (with_reducible refine jR ?_ _) | (with_reducible refine jQ ?_ _) | (with_reducible refine jS ?_))); (case side2 => exact HC0.out); rintro e w6 ⟨v162, rfl, ho0, hb⟩; refine ⟨_, rfl, ?_⟩; have n0_ := jA (jf ho0 (jY (zb0 HB))); have n1_ := jA (jV (zb0 HB) hb); clear HB; have HO163 := n0_; have HB := n1_; clear n0_ n1_; (try clear hb); (try clear hb2); (try clear hk); (try clear hi); (try clear ho0); obtain ⟨Ao7, co7, eo7⟩ := Kd.R_slice HO163.out; subst eo7))
 go_ret
 exact ⟨by first | rfl | (simp [errW_none, errW_some] <;> rfl) | (simp [*, errW_none, errW_some] <;> rfl), zb0 HB⟩

/-! ### spec_l23Some: function 71 -/
def spec_l23Some.l0 : Nat → List (S63) → List (S59) → Int → Int → List Int → Bool → List Int → Int → Option (List Int)
 | 0, _, _, _, _, _, _, _, _ => none
 | k + 1, x0, x1, x2, x3, x4, x5, x13, x14 => if x14 < (x1.length : Int) then (if 0 ≤ x14 then (if 0 ≤ ((rd_T59 x1 x14).f0) then (if ((rd_T59 x1 x14).f0) < (x4.length : Int) then ((spec_l23Tick.f k x0 x2 x3 ((rd_T59 x1 x14).f1)).bind fun t170 => (if (rd x4 ((rd_T59 x1 x14).f0)) ≥ 0 then (if x5 = true then (if (rd x4 ((rd_T59 x1 x14).f0)) ≥ t170 then (if x13.length < 17592186044416 then (spec_l23Some.l0 k x0 x1 x2 x3 x4 x5 (x13 ++ [(rd_T59 x1 x14).f0]) (wrap64 (x14 + 1))) else (none)) else (spec_l23Some.l0 k x0 x1 x2 x3 x4 x5 x13 (wrap64 (x14 + 1)))) else (if (rd x4 ((rd_T59 x1 x14).f0)) ≥ x3 then (if (rd x4 ((rd_T59 x1 x14).f0)) < t170 then (if x13.length < 17592186044416 then (spec_l23Some.l0 k x0 x1 x2 x3 x4 x5 (x13 ++ [(rd_T59 x1 x14).f0]) (wrap64 (x14 + 1))) else (none)) else (spec_l23Some.l0 k x0 x1 x2 x3 x4 x5 x13 (wrap64 (x14 + 1)))) else (spec_l23Some.l0 k x0 x1 x2 x3 x4 x5 x13 (wrap64 (x14 + 1))))) else (spec_l23Some.l0 k x0 x1 x2 x3 x4 x5 x13 (wrap64 (x14 + 1))))) else (none)) else (none)) else (none)) else (some x13)
def spec_l23Some.f (k : Nat) (l0 : List (S63)) (l1 : List (S59)) (a2 : Int) (a3 : Int) (l4 : List Int) (a5 : Bool) : Option (List Int) := spec_l23Some.l0 k l0 l1 a2 a3 l4 a5 (([] : List Int)) 0
theorem spec_l23Some.mono_l : ∀ k, (∀ y0 y1 y2 y3 y4 y5 y6 y7, LeO (spec_l23Some.l0 k y0 y1 y2 y3 y4 y5 y6 y7) (spec_l23Some.l0 (k + 1) y0 y1 y2 y3 y4 y5 y6 y7))
 | 0 => fun _ _ _ _ _ _ _ _ r h => by simp [spec_l23Some.l0] at h
 | k + 1 => by
  have ih0 := spec_l23Some.mono_l k
  ·intro y0 y1 y2 y3 y4 y5 y6 y7
   unfold spec_l23Some.l0
   repeat' first
   | (with_reducible exact ih0 _ _ _ _ _ _ _ _)
   | (with_reducible exact spec_l23Tick.mono _ _ _ _ _)
   | (with_reducible exact LeO.refl _)
   | (with_reducible exact LeO.none _)
   | (with_reducible refine LeO.ite ?_ ?_)
   | (with_reducible refine LeO.bind ?_ (fun _ => ?_))
   | exact ih0 _ _ _ _ _ _ _ _
   | exact spec_l23Tick.mono _ _ _ _ _
   | exact LeO.none _
   | refine LeO.ite ?_ ?_
   | refine LeO.bind ?_ (fun _ => ?_)
theorem spec_l23Some.mono : ∀ a0 a1 a2 a3 a4 a5 k, LeO (spec_l23Some.f k a0 a1 a2 a3 a4 a5) (spec_l23Some.f (k + 1) a0 a1 a2 a3 a4 a5) := by
 intro a0 a1 a2 a3 a4 a5 k
 have ih0 := spec_l23Some.mono_l k
 unfold spec_l23Some.f
 repeat' first
   | (with_reducible exact ih0 _ _ _ _ _ _ _ _)
   | (with_reducible exact spec_l23Tick.mono _ _ _ _ _)
   | (with_reducible exact LeO.refl _)
   | (with_reducible exact LeO.none _)
   | (with_reducible refine LeO.ite ?_ ?_)
   | (with_reducible refine LeO.bind ?_ (fun _ => ?_))
   | exact ih0 _ _ _ _ _ _ _ _
   | exact spec_l23Tick.mono _ _ _ _ _
   | exact LeO.none _
   | refine LeO.ite ?_ ?_
   | refine LeO.bind ?_ (fun _ => ?_)
set_option maxHeartbeats 8000000 in
set_option maxRecDepth 100000 in
theorem spec_l23Some.calls (k : Nat) (A0 : Option Addr) (c0 : Nat) (l0 : List (S63)) (A1 : Option Addr) (c1 : Nat) (l1 : List (S59)) (a2 : Int) (a3 : Int) (A4 : Option Addr) (c4 : Nat) (l4 : List Int) (a5 : Bool) (r : List Int) (w : World) (hr0 : Kd.C k63 w A0 l0.length l0) (hc0 : l0.length ≤ c0) (hr1 : Kd.C k59 w A1 l1.length l1) (hc1 : l1.length ≤ c1) (hr4 : Kd.C (Kd.int .i64) w A4 l4.length l4) (hc4 : l4.length ≤ c4) (h : spec_l23Some.f k l0 l1 a2 a3 l4 a5 = some r) :
  Calls Try.prog 71 #[.slice A0 l0.length c0, .slice A1 l1.length c1, .int .i64 a2, .int .i64 a3, .slice A4 l4.length c4, .bool a5] w fun e w' => ∃ v0_ : Value, e = .returned (v0_) ∧ Kd.R (Kd.int .i64) 2 w' w.heap.size (fun _ => True) v0_ r ∧ Below w.heap.size w w' := by
 have HR0 := jA hr0
 have HC0 := jA hc0
 clear hr0 hc0
 have HR1 := jA hr1
 have HC1 := jA hc1
 clear hr1 hc1
 have HR4 := jA hr4
 have HC4 := jA hc4
 clear hr4 hc4
 have HB := jA (Below.refl w.heap.size w)
 have H : (spec_l23Some.l0 k l0 l1 a2 a3 l4 a5 (([] : List Int)) 0) = some r := h
 clear h
 obtain ⟨y164, hy164⟩ : ∃ y_ : List Int, y_ = (([] : List Int)) := ⟨_, rfl⟩
 replace H : (spec_l23Some.l0 k l0 l1 a2 a3 l4 a5 y164 0) = some r := by first | (rw [hy164]; with_reducible exact H) | (have H2_ := (Option.bind_some _ _).symm.trans H; rw [hy164]; with_reducible exact H2_) | (have H2_ := (Option.bind_some _ _).symm.trans H; with_reducible exact H2_) | with_reducible exact H | (rw [hy164]; exact H) | exact H
 have Ny164 := jA hy164
 clear hy164
 have H' := jA H
 clear H
 go_enter Try.func71, Try.ntmps71
 go_wp2_with (first | ((with_reducible refine gate_dst (N := 17) rfl ?_); refine Kd.R_lit (Kd.int .i64) _ 2 ?hg (N := 17) ?hd (xs := ([] : List Int)) (inner := []) (ok := fun _ => True) (okp := fun _ => True) ?hr ?hp (fun _ hk => hk) trivial (Below.refl _ _) (Nat.le_refl _) (by simp) ?_; (case hd => rfl); (case hg => rfl); (case hr => first | (go_simp; done) | (go_simp; rfl)); (case hp => exact (Reps.none _ _)); intro v165 w7 ho8 hb hg_ hnew_; clear hg_ hnew_; (first | rw [← Ny164.out] at ho8 | (simp only [Int.reduceToNat] at ho8; rw [← Ny164.out] at ho8)); have n0_ := jA (jf ho8 (jY (zb0 HB))); have n1_ := jA (jV (zb0 HB) hb); clear HB; have HO166 := n0_; have HB := n1_; clear n0_ n1_; clear hb ho8))
 go_loopg [13, 14] k (fun kq v13 v14 w' => ∃ (x13_1 : List Int) (x14_1 : Int), v14 = .int .i64 x14_1 ∧ Aside0 (spec_l23Some.l0 kq l0 l1 a2 a3 l4 a5 x13_1 x14_1 = some r) ∧ Aside0 (kq ≤ k) ∧ Aside0 (Kd.R (Kd.int .i64) 2 w' w.heap.size (fun _ => True) v13 x13_1) ∧ Aside0 (Below w.heap.size w w'))
 case atStart => exact ⟨(y164), (0), zz, H', ⟨Nat.le_refl _⟩, ⟨by (with_reducible repeat (first | apply jH | apply jG | apply jK)); exact HO166.out⟩, ⟨zb0 HB⟩⟩
 case round =>
  clear H'
  try clear c1
  try clear p2
  try clear c4
  try clear c7
  obtain ⟨x13_1, x14_1, rfl, HA, HK1, HO_13, HB⟩ := hrel
  cases gk with
  | zero => exact absurd HA.out (by simp [spec_l23Some.l0])
  | succ k1 =>
   have H := HA.out
   clear HA
   simp only [spec_l23Some.l0] at H
   by_cases c9 : x14_1 < (l1.length : Int)
   ·rw [if_pos c9] at H
    have c9b0 : decide (x14_1 < (l1.length : Int)) = true := jP c9
    clear c9
    by_cases c10 : 0 ≤ x14_1
    ·rw [if_pos c10] at H
     have c10b0 : decide (0 ≤ x14_1) = true := jP c10
     clear c10
     by_cases c11 : 0 ≤ ((rd_T59 l1 x14_1).f0)
     ·rw [if_pos c11] at H
      have c11b0 : decide (0 ≤ ((rd_T59 l1 x14_1).f0)) = true := jP c11
      clear c11
      by_cases c12 : ((rd_T59 l1 x14_1).f0) < (l4.length : Int)
      ·rw [if_pos c12] at H
       have c12b0 : decide (((rd_T59 l1 x14_1).f0) < (l4.length : Int)) = true := jP c12
       clear c12
       replace H := jD.mp H
       obtain ⟨t170, A130, H⟩ := H
       replace H : (if (rd l4 ((rd_T59 l1 x14_1).f0)) ≥ 0 then (if a5 = true then (if (rd l4 ((rd_T59 l1 x14_1).f0)) ≥ t170 then (if x13_1.length < 17592186044416 then (spec_l23Some.l0 k1 l0 l1 a2 a3 l4 a5 (x13_1 ++ [(rd_T59 l1 x14_1).f0]) (wrap64 (x14_1 + 1))) else (none)) else (spec_l23Some.l0 k1 l0 l1 a2 a3 l4 a5 x13_1 (wrap64 (x14_1 + 1)))) else (if (rd l4 ((rd_T59 l1 x14_1).f0)) ≥ a3 then (if (rd l4 ((rd_T59 l1 x14_1).f0)) < t170 then (if x13_1.length < 17592186044416 then (spec_l23Some.l0 k1 l0 l1 a2 a3 l4 a5 (x13_1 ++ [(rd_T59 l1 x14_1).f0]) (wrap64 (x14_1 + 1))) else (none)) else (spec_l23Some.l0 k1 l0 l1 a2 a3 l4 a5 x13_1 (wrap64 (x14_1 + 1)))) else (spec_l23Some.l0 k1 l0 l1 a2 a3 l4 a5 x13_1 (wrap64 (x14_1 + 1))))) else (spec_l23Some.l0 k1 l0 l1 a2 a3 l4 a5 x13_1 (wrap64 (x14_1 + 1)))) = some r := H
       have A13 := jA A130
       clear A130
       by_cases c14 : (rd l4 ((rd_T59 l1 x14_1).f0)) ≥ 0
       ·rw [if_pos c14] at H
        have c14b0 : decide (0 ≤ (rd l4 ((rd_T59 l1 x14_1).f0))) = true := jP c14
        clear c14
        by_cases c15 : a5 = true
        ·subst c15
         have H1 : (if (rd l4 ((rd_T59 l1 x14_1).f0)) ≥ t170 then (if x13_1.length < 17592186044416 then (spec_l23Some.l0 k1 l0 l1 a2 a3 l4 true (x13_1 ++ [(rd_T59 l1 x14_1).f0]) (wrap64 (x14_1 + 1))) else (none)) else (spec_l23Some.l0 k1 l0 l1 a2 a3 l4 true x13_1 (wrap64 (x14_1 + 1)))) = some r := by rw [if_pos rfl] at H; exact H
         clear H
         have H := H1
         clear H1
         by_cases c16 : (rd l4 ((rd_T59 l1 x14_1).f0)) ≥ t170
         ·rw [if_pos c16] at H
          have c16b0 : decide (t170 ≤ (rd l4 ((rd_T59 l1 x14_1).f0))) = true := jP c16
          clear c16
          by_cases c17 : x13_1.length < 17592186044416
          ·rw [if_pos c17] at H
           have LMc17 := jA c17
           clear c17
           obtain ⟨y172, hy172⟩ : ∃ y_ : List Int, y_ = (x13_1 ++ [(rd_T59 l1 x14_1).f0]) := ⟨_, rfl⟩
           replace H : (spec_l23Some.l0 k1 l0 l1 a2 a3 l4 true y172 (wrap64 (x14_1 + 1))) = some r := by first | (rw [hy172]; with_reducible exact H) | (have H2_ := (Option.bind_some _ _).symm.trans H; rw [hy172]; with_reducible exact H2_) | (have H2_ := (Option.bind_some _ _).symm.trans H; with_reducible exact H2_) | with_reducible exact H | (rw [hy172]; exact H) | exact H
           have Ny172 := jA hy172
           clear hy172
           have H' := jA H
           clear H
           have p167 : 0 ≤ (x14_1 : Int) := jB za
           have q167 : x14_1 < (l1.length : Int) := jB za
           obtain ⟨ad167, e167, hx167_0, hx167_1, hx167_2⟩ := at_T59 HR1.out x14_1 p167 q167
           cases e167
           replace hx167_0 := (HB.out.cell (jC w _ hx167_0)).trans hx167_0
           replace hx167_1 := (HB.out.cell (jC w _ hx167_1)).trans hx167_1
           replace hx167_2 := (HB.out.cell (jC w _ hx167_2)).trans hx167_2
           replace p167 := eq_true p167
           replace q167 := eq_true q167
           have p168 : 0 ≤ (((rd_T59 l1 x14_1).f0) : Int) := jB za
           have q168 : ((rd_T59 l1 x14_1).f0) < (l4.length : Int) := jB za
           obtain ⟨ad168, e168, hx168_0⟩ := jh HR4.out ((rd_T59 l1 x14_1).f0) p168 q168
           cases e168
           replace hx168_0 := (HB.out.cell (jC w _ hx168_0)).trans hx168_0
           replace p168 := eq_true p168
           replace q168 := eq_true q168
           have p169 : 0 ≤ (x14_1 : Int) := jB za
           have q169 : x14_1 < (l1.length : Int) := jB za
           obtain ⟨ad169, e169, hx169_0, hx169_1, hx169_2⟩ := at_T59 HR1.out x14_1 p169 q169
           obtain rfl : ad167 = ad169 := (by injection e169)
           replace hx169_0 := (HB.out.cell (jC w _ hx169_0)).trans hx169_0
           replace hx169_1 := (HB.out.cell (jC w _ hx169_1)).trans hx169_1
           replace hx169_2 := (HB.out.cell (jC w _ hx169_2)).trans hx169_2
           replace p169 := eq_true p169
           replace q169 := eq_true q169
           go_wp2_with (first | ((with_reducible refine jN (f := 50) rfl ?_); refine goesL_ (some 40) rfl rfl Try.func50 zr rfl #[.slice A0 l0.length c0, .int .i64 a2, .int .i64 a3, .int .i64 ((rd_T59 l1 x14_1).f1)] rfl zm ?_; (with_reducible refine (spec_l23Tick.calls k1 _ _ l0 a2 a3 ((rd_T59 l1 x14_1).f1) t170 _ ?side1 ?side2 A13.out).mono ?_); (case side1 => exact zs HR0 HB); (case side2 => exact HC0.out); rintro e w18 ⟨rfl, hb⟩; refine ⟨_, rfl, ?_⟩; have n0_ := jA (jZ (zo HO_13) hb); have n1_ := jA (jV (zb0 HB) hb); clear HO_13; clear HB; have HO_13 := n0_; have HB := n1_; clear n0_ n1_; (try clear hb); (try clear hb2); (try clear hk); (try clear hi); have p171 : 0 ≤ (x14_1 : Int) := jB za; have q171 : x14_1 < (l1.length : Int) := jB za; obtain ⟨ad171, e171, hx171_0, hx171_1, hx171_2⟩ := at_T59 HR1.out x14_1 p171 q171; obtain rfl : ad167 = ad171 := (by injection e171); replace hx171_0 := (HB.out.cell (jC w _ hx171_0)).trans hx171_0; replace hx171_1 := (HB.out.cell (jC w _ hx171_1)).trans hx171_1; replace hx171_2 := (HB.out.cell (jC w _ hx171_2)).trans hx171_2; replace p171 := eq_true p171; replace q171 := eq_true q171) | ((with_reducible refine gate_builtin (b := .append) (xs := #[.tmp 65, .tmp 71]) rfl ?_); at_builtin; refine Kd.R_append (Kd.int .i64) (w0 := w) w.heap.size rfl (.tmp 65) (.tmp 71) 32 2 (.int .i64 0) 8 rfl Try.underlying32 info2 rfl (by decide) (by omega) u13 x13_1 ((rd_T59 l1 x14_1).f0) [.int .i64 ((rd_T59 l1 x14_1).f0)] (fun _ => True) (fun _ => False) rfl rfl ?aP (fun _ hk => hk.elim) ?aF ?aO ?aB ?aS ?aL ?_; (case aP => exact rfl); (case aB => exact (zb0 HB)); (case aF => exact (fun _ _ => trivial)); (case aO => exact (zo HO_13)); (case aS => exact (jY (zb0 HB))); (case aL => have := LMc17.out; omega); intro v173 w19 ho hb hg hat; rw [← Ny172.out] at ho; have n0_ := jA (hb); have n1_ := jA (ho); clear HB; clear HO_13; have HB := n0_; have HO174 := n1_; clear n0_ n1_; clear ho hb hg hat))
           go_roundg k1
           case measure => have := HK1.out; omega
           case rel => exact ⟨(y172), (wrap64 (x14_1 + 1)), zz, H', ⟨by have := HK1.out; omega⟩, ⟨by (with_reducible repeat (first | apply jH | apply jG | apply jK)); exact HO174.out⟩, ⟨zb0 HB⟩⟩
          ·rw [if_neg c17] at H
           exact absurd H (by simp)
         ·rw [if_neg c16] at H
          have c16b0 : decide (t170 ≤ (rd l4 ((rd_T59 l1 x14_1).f0))) = false := ja c16
          clear c16
          have H' := jA H
          clear H
          have p167 : 0 ≤ (x14_1 : Int) := jB za
          have q167 : x14_1 < (l1.length : Int) := jB za
          obtain ⟨ad167, e167, hx167_0, hx167_1, hx167_2⟩ := at_T59 HR1.out x14_1 p167 q167
          cases e167
          replace hx167_0 := (HB.out.cell (jC w _ hx167_0)).trans hx167_0
          replace hx167_1 := (HB.out.cell (jC w _ hx167_1)).trans hx167_1
          replace hx167_2 := (HB.out.cell (jC w _ hx167_2)).trans hx167_2
          replace p167 := eq_true p167
          replace q167 := eq_true q167
          have p168 : 0 ≤ (((rd_T59 l1 x14_1).f0) : Int) := jB za
          have q168 : ((rd_T59 l1 x14_1).f0) < (l4.length : Int) := jB za
          obtain ⟨ad168, e168, hx168_0⟩ := jh HR4.out ((rd_T59 l1 x14_1).f0) p168 q168
          cases e168
          replace hx168_0 := (HB.out.cell (jC w _ hx168_0)).trans hx168_0
          replace p168 := eq_true p168
          replace q168 := eq_true q168
          have p169 : 0 ≤ (x14_1 : Int) := jB za
          have q169 : x14_1 < (l1.length : Int) := jB za
          obtain ⟨ad169, e169, hx169_0, hx169_1, hx169_2⟩ := at_T59 HR1.out x14_1 p169 q169
          obtain rfl : ad167 = ad169 := (by injection e169)
          replace hx169_0 := (HB.out.cell (jC w _ hx169_0)).trans hx169_0
          replace hx169_1 := (HB.out.cell (jC w _ hx169_1)).trans hx169_1
          replace hx169_2 := (HB.out.cell (jC w _ hx169_2)).trans hx169_2
          replace p169 := eq_true p169
          replace q169 := eq_true q169
          go_wp2_with (first | ((with_reducible refine jN (f := 50) rfl ?_); refine goesL_ (some 40) rfl rfl Try.func50 zr rfl #[.slice A0 l0.length c0, .int .i64 a2, .int .i64 a3, .int .i64 ((rd_T59 l1 x14_1).f1)] rfl zm ?_; (with_reducible refine (spec_l23Tick.calls k1 _ _ l0 a2 a3 ((rd_T59 l1 x14_1).f1) t170 _ ?side1 ?side2 A13.out).mono ?_); (case side1 => exact zs HR0 HB); (case side2 => exact HC0.out); rintro e w20 ⟨rfl, hb⟩; refine ⟨_, rfl, ?_⟩; have n0_ := jA (jZ (zo HO_13) hb); have n1_ := jA (jV (zb0 HB) hb); clear HO_13; clear HB; have HO_13 := n0_; have HB := n1_; clear n0_ n1_; (try clear hb); (try clear hb2); (try clear hk); (try clear hi)))
          go_roundg k1
          case measure => have := HK1.out; omega
          case rel => exact ⟨(x13_1), (wrap64 (x14_1 + 1)), zz, H', ⟨by have := HK1.out; omega⟩, ⟨by (with_reducible repeat (first | apply jH | apply jG | apply jK)); exact HO_13.out⟩, ⟨zb0 HB⟩⟩
        ·replace c15 := Bool.eq_false_iff.mpr c15
         subst c15
         have H1 : (if (rd l4 ((rd_T59 l1 x14_1).f0)) ≥ a3 then (if (rd l4 ((rd_T59 l1 x14_1).f0)) < t170 then (if x13_1.length < 17592186044416 then (spec_l23Some.l0 k1 l0 l1 a2 a3 l4 false (x13_1 ++ [(rd_T59 l1 x14_1).f0]) (wrap64 (x14_1 + 1))) else (none)) else (spec_l23Some.l0 k1 l0 l1 a2 a3 l4 false x13_1 (wrap64 (x14_1 + 1)))) else (spec_l23Some.l0 k1 l0 l1 a2 a3 l4 false x13_1 (wrap64 (x14_1 + 1)))) = some r := by rw [if_neg (show ¬ (false = true) by decide)] at H; exact H
         clear H
         have H := H1
         clear H1
         by_cases c21 : (rd l4 ((rd_T59 l1 x14_1).f0)) ≥ a3
         ·rw [if_pos c21] at H
          have c21b0 : decide (a3 ≤ (rd l4 ((rd_T59 l1 x14_1).f0))) = true := jP c21
          clear c21
          by_cases c22 : (rd l4 ((rd_T59 l1 x14_1).f0)) < t170
          ·rw [if_pos c22] at H
           have c22b0 : decide ((rd l4 ((rd_T59 l1 x14_1).f0)) < t170) = true := jP c22
           clear c22
           by_cases c23 : x13_1.length < 17592186044416
           ·rw [if_pos c23] at H
            have LMc23 := jA c23
            clear c23
            obtain ⟨y176, hy176⟩ : ∃ y_ : List Int, y_ = (x13_1 ++ [(rd_T59 l1 x14_1).f0]) := ⟨_, rfl⟩
            replace H : (spec_l23Some.l0 k1 l0 l1 a2 a3 l4 false y176 (wrap64 (x14_1 + 1))) = some r := by first | (rw [hy176]; with_reducible exact H) | (have H2_ := (Option.bind_some _ _).symm.trans H; rw [hy176]; with_reducible exact H2_) | (have H2_ := (Option.bind_some _ _).symm.trans H; with_reducible exact H2_) | with_reducible exact H | (rw [hy176]; exact H) | exact H
            have Ny176 := jA hy176
            clear hy176
            have H' := jA H
            clear H
            have p167 : 0 ≤ (x14_1 : Int) := jB za
            have q167 : x14_1 < (l1.length : Int) := jB za
            obtain ⟨ad167, e167, hx167_0, hx167_1, hx167_2⟩ := at_T59 HR1.out x14_1 p167 q167
            cases e167
            replace hx167_0 := (HB.out.cell (jC w _ hx167_0)).trans hx167_0
            replace hx167_1 := (HB.out.cell (jC w _ hx167_1)).trans hx167_1
            replace hx167_2 := (HB.out.cell (jC w _ hx167_2)).trans hx167_2
            replace p167 := eq_true p167
            replace q167 := eq_true q167
            have p168 : 0 ≤ (((rd_T59 l1 x14_1).f0) : Int) := jB za
            have q168 : ((rd_T59 l1 x14_1).f0) < (l4.length : Int) := jB za
            obtain ⟨ad168, e168, hx168_0⟩ := jh HR4.out ((rd_T59 l1 x14_1).f0) p168 q168
            cases e168
            replace hx168_0 := (HB.out.cell (jC w _ hx168_0)).trans hx168_0
            replace p168 := eq_true p168
            replace q168 := eq_true q168
            have p169 : 0 ≤ (x14_1 : Int) := jB za
            have q169 : x14_1 < (l1.length : Int) := jB za
            obtain ⟨ad169, e169, hx169_0, hx169_1, hx169_2⟩ := at_T59 HR1.out x14_1 p169 q169
            obtain rfl : ad167 = ad169 := (by injection e169)
            replace hx169_0 := (HB.out.cell (jC w _ hx169_0)).trans hx169_0
            replace hx169_1 := (HB.out.cell (jC w _ hx169_1)).trans hx169_1
            replace hx169_2 := (HB.out.cell (jC w _ hx169_2)).trans hx169_2
            replace p169 := eq_true p169
            replace q169 := eq_true q169
            go_wp2_with (first | ((with_reducible refine jN (f := 50) rfl ?_); refine goesL_ (some 40) rfl rfl Try.func50 zr rfl #[.slice A0 l0.length c0, .int .i64 a2, .int .i64 a3, .int .i64 ((rd_T59 l1 x14_1).f1)] rfl zm ?_; (with_reducible refine (spec_l23Tick.calls k1 _ _ l0 a2 a3 ((rd_T59 l1 x14_1).f1) t170 _ ?side1 ?side2 A13.out).mono ?_); (case side1 => exact zs HR0 HB); (case side2 => exact HC0.out); rintro e w24 ⟨rfl, hb⟩; refine ⟨_, rfl, ?_⟩; have n0_ := jA (jZ (zo HO_13) hb); have n1_ := jA (jV (zb0 HB) hb); clear HO_13; clear HB; have HO_13 := n0_; have HB := n1_; clear n0_ n1_; (try clear hb); (try clear hb2); (try clear hk); (try clear hi); have p175 : 0 ≤ (x14_1 : Int) := jB za; have q175 : x14_1 < (l1.length : Int) := jB za; obtain ⟨ad175, e175, hx175_0, hx175_1, hx175_2⟩ := at_T59 HR1.out x14_1 p175 q175; obtain rfl : ad167 = ad175 := (by injection e175); replace hx175_0 := (HB.out.cell (jC w _ hx175_0)).trans hx175_0; replace hx175_1 := (HB.out.cell (jC w _ hx175_1)).trans hx175_1; replace hx175_2 := (HB.out.cell (jC w _ hx175_2)).trans hx175_2; replace p175 := eq_true p175; replace q175 := eq_true q175) | ((with_reducible refine gate_builtin (b := .append) (xs := #[.tmp 65, .tmp 71]) rfl ?_); at_builtin; refine Kd.R_append (Kd.int .i64) (w0 := w) w.heap.size rfl (.tmp 65) (.tmp 71) 32 2 (.int .i64 0) 8 rfl Try.underlying32 info2 rfl (by decide) (by omega) u13 x13_1 ((rd_T59 l1 x14_1).f0) [.int .i64 ((rd_T59 l1 x14_1).f0)] (fun _ => True) (fun _ => False) rfl rfl ?aP (fun _ hk => hk.elim) ?aF ?aO ?aB ?aS ?aL ?_; (case aP => exact rfl); (case aB => exact (zb0 HB)); (case aF => exact (fun _ _ => trivial)); (case aO => exact (zo HO_13)); (case aS => exact (jY (zb0 HB))); (case aL => have := LMc23.out; omega); intro v177 w25 ho hb hg hat; rw [← Ny176.out] at ho; have n0_ := jA (hb); have n1_ := jA (ho); clear HB; clear HO_13; have HB := n0_; have HO178 := n1_; clear n0_ n1_; clear ho hb hg hat))
            go_roundg k1
            case measure => have := HK1.out; omega
            case rel => exact ⟨(y176), (wrap64 (x14_1 + 1)), zz, H', ⟨by have := HK1.out; omega⟩, ⟨by (with_reducible repeat (first | apply jH | apply jG | apply jK)); exact HO178.out⟩, ⟨zb0 HB⟩⟩
           ·rw [if_neg c23] at H
            exact absurd H (by simp)
          ·rw [if_neg c22] at H
           have c22b0 : decide ((rd l4 ((rd_T59 l1 x14_1).f0)) < t170) = false := ja c22
           clear c22
           have H' := jA H
           clear H
           have p167 : 0 ≤ (x14_1 : Int) := jB za
           have q167 : x14_1 < (l1.length : Int) := jB za
           obtain ⟨ad167, e167, hx167_0, hx167_1, hx167_2⟩ := at_T59 HR1.out x14_1 p167 q167
           cases e167
           replace hx167_0 := (HB.out.cell (jC w _ hx167_0)).trans hx167_0
           replace hx167_1 := (HB.out.cell (jC w _ hx167_1)).trans hx167_1
           replace hx167_2 := (HB.out.cell (jC w _ hx167_2)).trans hx167_2
           replace p167 := eq_true p167
           replace q167 := eq_true q167
           have p168 : 0 ≤ (((rd_T59 l1 x14_1).f0) : Int) := jB za
           have q168 : ((rd_T59 l1 x14_1).f0) < (l4.length : Int) := jB za
           obtain ⟨ad168, e168, hx168_0⟩ := jh HR4.out ((rd_T59 l1 x14_1).f0) p168 q168
           cases e168
           replace hx168_0 := (HB.out.cell (jC w _ hx168_0)).trans hx168_0
           replace p168 := eq_true p168
           replace q168 := eq_true q168
           have p169 : 0 ≤ (x14_1 : Int) := jB za
           have q169 : x14_1 < (l1.length : Int) := jB za
           obtain ⟨ad169, e169, hx169_0, hx169_1, hx169_2⟩ := at_T59 HR1.out x14_1 p169 q169
           obtain rfl : ad167 = ad169 := (by injection e169)
           replace hx169_0 := (HB.out.cell (jC w _ hx169_0)).trans hx169_0
           replace hx169_1 := (HB.out.cell (jC w _ hx169_1)).trans hx169_1
           replace hx169_2 := (HB.out.cell (jC w _ hx169_2)).trans hx169_2
           replace p169 := eq_true p169
           replace q169 := eq_true q169
           go_wp2_with (first | ((with_reducible refine jN (f := 50) rfl ?_); refine goesL_ (some 40) rfl rfl Try.func50 zr rfl #[.slice A0 l0.length c0, .int .i64 a2, .int .i64 a3, .int .i64 ((rd_T59 l1 x14_1).f1)] rfl zm ?_; (with_reducible refine (spec_l23Tick.calls k1 _ _ l0 a2 a3 ((rd_T59 l1 x14_1).f1) t170 _ ?side1 ?side2 A13.out).mono ?_); (case side1 => exact zs HR0 HB); (case side2 => exact HC0.out); rintro e w26 ⟨rfl, hb⟩; refine ⟨_, rfl, ?_⟩; have n0_ := jA (jZ (zo HO_13) hb); have n1_ := jA (jV (zb0 HB) hb); clear HO_13; clear HB; have HO_13 := n0_; have HB := n1_; clear n0_ n1_; (try clear hb); (try clear hb2); (try clear hk); (try clear hi)))
           go_roundg k1
           case measure => have := HK1.out; omega
           case rel => exact ⟨(x13_1), (wrap64 (x14_1 + 1)), zz, H', ⟨by have := HK1.out; omega⟩, ⟨by (with_reducible repeat (first | apply jH | apply jG | apply jK)); exact HO_13.out⟩, ⟨zb0 HB⟩⟩
         ·rw [if_neg c21] at H
          have c21b0 : decide (a3 ≤ (rd l4 ((rd_T59 l1 x14_1).f0))) = false := ja c21
          clear c21
          have H' := jA H
          clear H
          have p167 : 0 ≤ (x14_1 : Int) := jB za
          have q167 : x14_1 < (l1.length : Int) := jB za
          obtain ⟨ad167, e167, hx167_0, hx167_1, hx167_2⟩ := at_T59 HR1.out x14_1 p167 q167
          cases e167
          replace hx167_0 := (HB.out.cell (jC w _ hx167_0)).trans hx167_0
          replace hx167_1 := (HB.out.cell (jC w _ hx167_1)).trans hx167_1
          replace hx167_2 := (HB.out.cell (jC w _ hx167_2)).trans hx167_2
          replace p167 := eq_true p167
          replace q167 := eq_true q167
          have p168 : 0 ≤ (((rd_T59 l1 x14_1).f0) : Int) := jB za
          have q168 : ((rd_T59 l1 x14_1).f0) < (l4.length : Int) := jB za
          obtain ⟨ad168, e168, hx168_0⟩ := jh HR4.out ((rd_T59 l1 x14_1).f0) p168 q168
          cases e168
          replace hx168_0 := (HB.out.cell (jC w _ hx168_0)).trans hx168_0
          replace p168 := eq_true p168
          replace q168 := eq_true q168
          have p169 : 0 ≤ (x14_1 : Int) := jB za
          have q169 : x14_1 < (l1.length : Int) := jB za
          obtain ⟨ad169, e169, hx169_0, hx169_1, hx169_2⟩ := at_T59 HR1.out x14_1 p169 q169
          obtain rfl : ad167 = ad169 := (by injection e169)
          replace hx169_0 := (HB.out.cell (jC w _ hx169_0)).trans hx169_0
          replace hx169_1 := (HB.out.cell (jC w _ hx169_1)).trans hx169_1
          replace hx169_2 := (HB.out.cell (jC w _ hx169_2)).trans hx169_2
          replace p169 := eq_true p169
          replace q169 := eq_true q169
          go_wp2_with (first | ((with_reducible refine jN (f := 50) rfl ?_); refine goesL_ (some 40) rfl rfl Try.func50 zr rfl #[.slice A0 l0.length c0, .int .i64 a2, .int .i64 a3, .int .i64 ((rd_T59 l1 x14_1).f1)] rfl zm ?_; (with_reducible refine (spec_l23Tick.calls k1 _ _ l0 a2 a3 ((rd_T59 l1 x14_1).f1) t170 _ ?side1 ?side2 A13.out).mono ?_); (case side1 => exact zs HR0 HB); (case side2 => exact HC0.out); rintro e w27 ⟨rfl, hb⟩; refine ⟨_, rfl, ?_⟩; have n0_ := jA (jZ (zo HO_13) hb); have n1_ := jA (jV (zb0 HB) hb); clear HO_13; clear HB; have HO_13 := n0_; have HB := n1_; clear n0_ n1_; (try clear hb); (try clear hb2); (try clear hk); (try clear hi)))
          go_roundg k1
          case measure => have := HK1.out; omega
          case rel => exact ⟨(x13_1), (wrap64 (x14_1 + 1)), zz, H', ⟨by have := HK1.out; omega⟩, ⟨by (with_reducible repeat (first | apply jH | apply jG | apply jK)); exact HO_13.out⟩, ⟨zb0 HB⟩⟩
       ·rw [if_neg c14] at H
        have c14b0 : decide (0 ≤ (rd l4 ((rd_T59 l1 x14_1).f0))) = false := ja c14
        clear c14
        have H' := jA H
        clear H
        have p167 : 0 ≤ (x14_1 : Int) := jB za
        have q167 : x14_1 < (l1.length : Int) := jB za
        obtain ⟨ad167, e167, hx167_0, hx167_1, hx167_2⟩ := at_T59 HR1.out x14_1 p167 q167
        cases e167
        replace hx167_0 := (HB.out.cell (jC w _ hx167_0)).trans hx167_0
        replace hx167_1 := (HB.out.cell (jC w _ hx167_1)).trans hx167_1
        replace hx167_2 := (HB.out.cell (jC w _ hx167_2)).trans hx167_2
        replace p167 := eq_true p167
        replace q167 := eq_true q167
        have p168 : 0 ≤ (((rd_T59 l1 x14_1).f0) : Int) := jB za
        have q168 : ((rd_T59 l1 x14_1).f0) < (l4.length : Int) := jB za
        obtain ⟨ad168, e168, hx168_0⟩ := jh HR4.out ((rd_T59 l1 x14_1).f0) p168 q168
        cases e168
        replace hx168_0 := (HB.out.cell (jC w _ hx168_0)).trans hx168_0
        replace p168 := eq_true p168
        replace q168 := eq_true q168
        have p169 : 0 ≤ (x14_1 : Int) := jB za
        have q169 : x14_1 < (l1.length : Int) := jB za
        obtain ⟨ad169, e169, hx169_0, hx169_1, hx169_2⟩ := at_T59 HR1.out x14_1 p169 q169
        obtain rfl : ad167 = ad169 := (by injection e169)
        replace hx169_0 := (HB.out.cell (jC w _ hx169_0)).trans hx169_0
        replace hx169_1 := (HB.out.cell (jC w _ hx169_1)).trans hx169_1
        replace hx169_2 := (HB.out.cell (jC w _ hx169_2)).trans hx169_2
        replace p169 := eq_true p169
        replace q169 := eq_true q169
        go_wp2_with (first | ((with_reducible refine jN (f := 50) rfl ?_); refine goesL_ (some 40) rfl rfl Try.func50 zr rfl #[.slice A0 l0.length c0, .int .i64 a2, .int .i64 a3, .int .i64 ((rd_T59 l1 x14_1).f1)] rfl zm ?_; (with_reducible refine (spec_l23Tick.calls k1 _ _ l0 a2 a3 ((rd_T59 l1 x14_1).f1) t170 _ ?side1 ?side2 A13.out).mono ?_); (case side1 => exact zs HR0 HB); (case side2 => exact HC0.out); rintro e w28 ⟨rfl, hb⟩; refine ⟨_, rfl, ?_⟩; have n0_ := jA (jZ (zo HO_13) hb); have n1_ := jA (jV (zb0 HB) hb); clear HO_13; clear HB; have HO_13 := n0_; have HB := n1_; clear n0_ n1_; (try clear hb); (try clear hb2); (try clear hk); (try clear hi)))
        go_roundg k1
        case measure => have := HK1.out; omega
        case rel => exact ⟨(x13_1), (wrap64 (x14_1 + 1)), zz, H', ⟨by have := HK1.out; omega⟩, ⟨by (with_reducible repeat (first | apply jH | apply jG | apply jK)); exact HO_13.out⟩, ⟨zb0 HB⟩⟩
      ·rw [if_neg c12] at H
       exact absurd H (by simp)
     ·rw [if_neg c11] at H
      exact absurd H (by simp)
    ·rw [if_neg c10] at H
     exact absurd H (by simp)
   ·rw [if_neg c9] at H
    have c9b0 : decide (x14_1 < (l1.length : Int)) = false := ja c9
    clear c9
    obtain rfl := jW H
    go_wp2
    go_ret
    exact ⟨_, by first | rfl | (simp [errW_none, errW_some] <;> rfl) | (simp [*, errW_none, errW_some] <;> rfl), by (with_reducible repeat (first | apply jH | apply jG | apply jK)); exact HO_13.out, zb0 HB⟩

/-! ### spec_LateCues: function 37 -/
def spec_LateCues.f (k : Nat) (l0 : List (S63)) (a1 : Int) (l2 : List (S59)) (a3 : Int) (a4 : Int) (l5 : List Int) : Option (List Int × Int) := (spec_l23Cues.f k l0 a1 l2 a3 a4 l5).bind fun t179 => (if t179 = 0 then ((spec_l23Some.f k l0 l2 a3 a4 l5 false).bind fun t180 => (some (t180, 0))) else (some (([] : List Int), t179)))
theorem spec_LateCues.mono : ∀ a0 a1 a2 a3 a4 a5 k, LeO (spec_LateCues.f k a0 a1 a2 a3 a4 a5) (spec_LateCues.f (k + 1) a0 a1 a2 a3 a4 a5) := by
 intro a0 a1 a2 a3 a4 a5 k
 unfold spec_LateCues.f
 repeat' first
   | (with_reducible exact spec_l23Cues.mono _ _ _ _ _ _ _)
   | (with_reducible exact spec_l23Some.mono _ _ _ _ _ _ _)
   | (with_reducible exact LeO.refl _)
   | (with_reducible exact LeO.none _)
   | (with_reducible refine LeO.ite ?_ ?_)
   | (with_reducible refine LeO.bind ?_ (fun _ => ?_))
   | exact spec_l23Cues.mono _ _ _ _ _ _ _
   | exact spec_l23Some.mono _ _ _ _ _ _ _
   | exact LeO.none _
   | refine LeO.ite ?_ ?_
   | refine LeO.bind ?_ (fun _ => ?_)
set_option maxHeartbeats 8000000 in
set_option maxRecDepth 100000 in
theorem spec_LateCues.calls (k : Nat) (A0 : Option Addr) (c0 : Nat) (l0 : List (S63)) (a1 : Int) (A2 : Option Addr) (c2 : Nat) (l2 : List (S59)) (a3 : Int) (a4 : Int) (A5 : Option Addr) (c5 : Nat) (l5 : List Int) (r1 : List Int) (r2 : Int) (w : World) (hr0 : Kd.C k63 w A0 l0.length l0) (hc0 : l0.length ≤ c0) (hr2 : Kd.C k59 w A2 l2.length l2) (hc2 : l2.length ≤ c2) (hr5 : Kd.C (Kd.int .i64) w A5 l5.length l5) (hc5 : l5.length ≤ c5) (h : spec_LateCues.f k l0 a1 l2 a3 a4 l5 = some (r1, r2)) :
  Calls Try.prog 37 #[.slice A0 l0.length c0, .int .i64 a1, .slice A2 l2.length c2, .int .i64 a3, .int .i64 a4, .slice A5 l5.length c5] w fun e w' => ∃ v0_ : Value, e = .returned (.tuple #[v0_, .int .i64 r2]) ∧ Kd.R (Kd.int .i64) 2 w' w.heap.size (fun _ => True) v0_ r1 ∧ Below w.heap.size w w' := by
 have HR0 := jA hr0
 have HC0 := jA hc0
 clear hr0 hc0
 have HR2 := jA hr2
 have HC2 := jA hc2
 clear hr2 hc2
 have HR5 := jA hr5
 have HC5 := jA hc5
 clear hr5 hc5
 have HB := jA (Below.refl w.heap.size w)
 have H : ((spec_l23Cues.f k l0 a1 l2 a3 a4 l5).bind fun t179 => (if t179 = 0 then ((spec_l23Some.f k l0 l2 a3 a4 l5 false).bind fun t180 => (some (t180, 0))) else (some (([] : List Int), t179)))) = some (r1, r2) := h
 clear h
 replace H := jD.mp H
 obtain ⟨t179, A70, H⟩ := H
 replace H : (if t179 = 0 then ((spec_l23Some.f k l0 l2 a3 a4 l5 false).bind fun t180 => (some (t180, 0))) else (some (([] : List Int), t179))) = some (r1, r2) := H
 have A7 := jA A70
 clear A70
 by_cases c8 : t179 = 0
 ·rw [if_pos c8] at H
  have c8b0 : (t179 == 0) = true := beq_iff_eq.mpr c8
  have c8b1 : (t179 != 0) = false := bne_eq_false_iff_eq.mpr c8
  clear c8
  replace H := jD.mp H
  obtain ⟨t180, A90, H⟩ := H
  replace H : (some (t180, 0)) = some (r1, r2) := H
  have A9 := jA A90
  clear A90
  simp only [je, jg] at H
  obtain ⟨rfl, rfl⟩ := H
  go_enter Try.func37, Try.ntmps37
  go_wp2_with (first | ((with_reducible refine jN (f := 70) rfl ?_); refine goesL_ (some 21) rfl rfl Try.func70 zr rfl #[.slice A0 l0.length c0, .int .i64 a1, .slice A2 l2.length c2, .int .i64 a3, .int .i64 a4, .slice A5 l5.length c5] rfl zm ?_; (with_reducible refine (spec_l23Cues.calls k _ _ l0 a1 _ _ l2 a3 a4 _ _ l5 t179 _ ?side1 ?side2 ?side3 ?side4 ?side5 ?side6 A7.out).mono ?_); (case side1 => repeat (first | exact HR0.out | (with_reducible refine jR ?_ _) | (with_reducible refine jQ ?_ _) | (with_reducible refine jS ?_))); (case side2 => exact HC0.out); (case side3 => repeat (first | exact HR2.out | (with_reducible refine jR ?_ _) | (with_reducible refine jQ ?_ _) | (with_reducible refine jS ?_))); (case side4 => exact HC2.out); (case side5 => repeat (first | exact HR5.out | (with_reducible refine jR ?_ _) | (with_reducible refine jQ ?_ _) | (with_reducible refine jS ?_))); (case side6 => exact HC5.out); rintro e w10 ⟨rfl, hb⟩; refine ⟨_, rfl, ?_⟩; have n0_ := jA (jV (zb0 HB) hb); clear HB; have HB := n0_; clear n0_; (try clear hb); (try clear hb2); (try clear hk); (try clear hi)) | ((with_reducible refine jN (f := 71) rfl ?_); refine goesL_ (some 30) rfl rfl Try.func71 zr rfl #[.slice A0 l0.length c0, .slice A2 l2.length c2, .int .i64 a3, .int .i64 a4, .slice A5 l5.length c5, .bool false] rfl zm ?_; (with_reducible refine (spec_l23Some.calls k _ _ l0 _ _ l2 a3 a4 _ _ l5 false t180 _ ?side1 ?side2 ?side3 ?side4 ?side5 ?side6 A9.out).mono ?_); (case side1 => exact zs HR0 HB); (case side2 => exact HC0.out); (case side3 => exact zs HR2 HB); (case side4 => exact HC2.out); (case side5 => exact zs HR5 HB); (case side6 => exact HC5.out); rintro e w11 ⟨v181, rfl, ho0, hb⟩; refine ⟨_, rfl, ?_⟩; have n0_ := jA (jf ho0 (jY (zb0 HB))); have n1_ := jA (jV (zb0 HB) hb); clear HB; have HO182 := n0_; have HB := n1_; clear n0_ n1_; (try clear hb); (try clear hb2); (try clear hk); (try clear hi); (try clear ho0)))
  go_ret2
  exact ⟨_, by first | rfl | (simp [errW_none, errW_some] <;> rfl) | (simp [*, errW_none, errW_some] <;> rfl), by (with_reducible repeat (first | apply jH | apply jG | apply jK)); exact HO182.out, zb0 HB⟩
 ·rw [if_neg c8] at H
  have c8b0 : (t179 == 0) = false := beq_eq_false_iff_ne.mpr c8
  have c8b1 : (t179 != 0) = true := bne_iff_ne.mpr c8
  simp only [je, jg] at H
  obtain ⟨rfl, rfl⟩ := H
  go_enter Try.func37, Try.ntmps37
  go_wp2_with (first | ((with_reducible refine jN (f := 70) rfl ?_); refine goesL_ (some 21) rfl rfl Try.func70 zr rfl #[.slice A0 l0.length c0, .int .i64 a1, .slice A2 l2.length c2, .int .i64 a3, .int .i64 a4, .slice A5 l5.length c5] rfl zm ?_; (with_reducible refine (spec_l23Cues.calls k _ _ l0 a1 _ _ l2 a3 a4 _ _ l5 t179 _ ?side1 ?side2 ?side3 ?side4 ?side5 ?side6 A7.out).mono ?_); (case side1 => repeat (first | exact HR0.out | (with_reducible refine jR ?_ _) | (with_reducible refine jQ ?_ _) | (with_reducible refine jS ?_))); (case side2 => exact HC0.out); (case side3 => repeat (first | exact HR2.out | (with_reducible refine jR ?_ _) | (with_reducible refine jQ ?_ _) | (with_reducible refine jS ?_))); (case side4 => exact HC2.out); (case side5 => repeat (first | exact HR5.out | (with_reducible refine jR ?_ _) | (with_reducible refine jQ ?_ _) | (with_reducible refine jS ?_))); (case side6 => exact HC5.out); rintro e w12 ⟨rfl, hb⟩; refine ⟨_, rfl, ?_⟩; have n0_ := jA (jV (zb0 HB) hb); clear HB; have HB := n0_; clear n0_; (try clear hb); (try clear hb2); (try clear hk); (try clear hi)))
  go_ret2
  exact ⟨_, by first | rfl | (simp [errW_none, errW_some] <;> rfl) | (simp [*, errW_none, errW_some] <;> rfl), by first | exact Kd.R_nil _ _ _ _ _ | exact Kd.N_nil _ _ _ _ _ | exact Kd.V_nil _ _ _ _ _ | exact Kd.Q_nil _ _ _ _ _ | exact Kd.S_nil _ _ _ _ _, zb0 HB⟩

/-! ### impl_isIndex: function 67 -/
def impl_isIndex.f (a0 : Int) (a1 : Int) : Option (Bool) := (impl_within.f a0 0 (wrap64 (a1 - 1))).bind fun t183 => (some t183)
set_option maxHeartbeats 8000000 in
set_option maxRecDepth 100000 in
theorem impl_isIndex.calls (a0 : Int) (a1 : Int) (r : Bool) (w : World) (h : impl_isIndex.f a0 a1 = some r) :
  Calls Try.prog 67 #[.int .i64 a0, .int .i64 a1] w fun e w' => e = .returned (.bool r) ∧ Drawn0 w w' := by
 have H : ((impl_within.f a0 0 (wrap64 (a1 - 1))).bind fun t183 => (some t183)) = some r := h
 clear h
 replace H := jD.mp H
 obtain ⟨t183, A30, H⟩ := H
 replace H : (some t183) = some r := H
 have A3 := jA A30
 clear A30
 obtain rfl := jW H
 go_enter Try.func67, Try.ntmps67
 go_wp2_with (first | ((with_reducible refine jN (f := 61) rfl ?_); refine goesL_ (some 8) rfl rfl Try.func61 zr rfl #[.int .i64 a0, .int .i64 0, .int .i64 (wrap64 (a1 - 1))] rfl zm ?_; (with_reducible refine (impl_within.calls a0 0 (wrap64 (a1 - 1)) t183 _ A3.out).mono ?_); rintro e w' ⟨rfl, ⟨nd, rfl⟩⟩; refine ⟨_, rfl, ?_⟩))
 go_ret
 exact ⟨by first | rfl | (simp; done) | (simp [*]; done), by repeat (first | exact Drawn0.refl _ | apply Drawn0.step)⟩

/-! ### impl_isPin: function 92 -/
def impl_isPin.f (l0 : List (S63)) (a1 : Int) (a2 : Int) : Option (Bool) := (impl_isIndex.f a1 (l0.length : Int)).bind fun t184 => (if t184 = true then (if 0 ≤ a1 then (if a1 < (l0.length : Int) then ((impl_within.f a2 0 (wrap64 (((rd_T63 l0 a1).f1) - 1))).bind fun t186 => (some t186)) else (none)) else (none)) else (some false))
set_option maxHeartbeats 8000000 in
set_option maxRecDepth 100000 in
theorem impl_isPin.calls (A0 : Option Addr) (c0 : Nat) (l0 : List (S63)) (a1 : Int) (a2 : Int) (r : Bool) (w : World) (hr0 : Kd.C k63 w A0 l0.length l0) (hc0 : l0.length ≤ c0) (h : impl_isPin.f l0 a1 a2 = some r) :
  Calls Try.prog 92 #[.slice A0 l0.length c0, .int .i64 a1, .int .i64 a2] w fun e w' => e = .returned (.bool r) ∧ Drawn0 w w' := by
 have HR0 := jA hr0
 have HC0 := jA hc0
 clear hr0 hc0
 have H : ((impl_isIndex.f a1 (l0.length : Int)).bind fun t184 => (if t184 = true then (if 0 ≤ a1 then (if a1 < (l0.length : Int) then ((impl_within.f a2 0 (wrap64 (((rd_T63 l0 a1).f1) - 1))).bind fun t186 => (some t186)) else (none)) else (none)) else (some false))) = some r := h
 clear h
 replace H := jD.mp H
 obtain ⟨t184, A40, H⟩ := H
 replace H : (if t184 = true then (if 0 ≤ a1 then (if a1 < (l0.length : Int) then ((impl_within.f a2 0 (wrap64 (((rd_T63 l0 a1).f1) - 1))).bind fun t186 => (some t186)) else (none)) else (none)) else (some false)) = some r := H
 have A4 := jA A40
 clear A40
 by_cases c5 : t184 = true
 ·subst c5
  have H1 : (if 0 ≤ a1 then (if a1 < (l0.length : Int) then ((impl_within.f a2 0 (wrap64 (((rd_T63 l0 a1).f1) - 1))).bind fun t186 => (some t186)) else (none)) else (none)) = some r := by rw [if_pos rfl] at H; exact H
  clear H
  have H := H1
  clear H1
  by_cases c6 : 0 ≤ a1
  ·rw [if_pos c6] at H
   have c6b0 : decide (0 ≤ a1) = true := jP c6
   clear c6
   by_cases c7 : a1 < (l0.length : Int)
   ·rw [if_pos c7] at H
    have c7b0 : decide (a1 < (l0.length : Int)) = true := jP c7
    clear c7
    replace H := jD.mp H
    obtain ⟨t186, A80, H⟩ := H
    replace H : (some t186) = some r := H
    have A8 := jA A80
    clear A80
    obtain rfl := jW H
    go_enter Try.func92, Try.ntmps92
    go_wp2_with (first | ((with_reducible refine jN (f := 67) rfl ?_); refine goesL_ (some 10) rfl rfl Try.func67 zr rfl #[.int .i64 a1, .int .i64 (l0.length : Int)] rfl zm ?_; (with_reducible refine (impl_isIndex.calls a1 (l0.length : Int) true _ A4.out).mono ?_); rintro e w' ⟨rfl, ⟨nd, rfl⟩⟩; refine ⟨_, rfl, ?_⟩; have p185 : 0 ≤ (a1 : Int) := jB za; have q185 : a1 < (l0.length : Int) := jB za; obtain ⟨ad185, e185, hx185_0, hx185_1⟩ := at_T63 HR0.out a1 p185 q185; cases e185; replace p185 := eq_true p185; replace q185 := eq_true q185) | (go_at_call 61; (with_reducible refine (impl_within.calls a2 0 (wrap64 (((rd_T63 l0 a1).f1) - 1)) t186 _ A8.out).mono ?_); rintro e w' ⟨rfl, ⟨nd, rfl⟩⟩))
    go_ret
    exact ⟨by first | rfl | (simp; done) | (simp [*]; done), by repeat (first | exact Drawn0.refl _ | apply Drawn0.step)⟩
   ·rw [if_neg c7] at H
    exact absurd H (by simp)
  ·rw [if_neg c6] at H
   exact absurd H (by simp)
 ·replace c5 := Bool.eq_false_iff.mpr c5
  subst c5
  have H1 : (some false) = some r := by rw [if_neg (show ¬ (false = true) by decide)] at H; exact H
  clear H
  have H := H1
  clear H1
  obtain rfl := jW H
  go_enter Try.func92, Try.ntmps92
  go_wp2_with (first | ((with_reducible refine jN (f := 67) rfl ?_); refine goesL_ (some 10) rfl rfl Try.func67 zr rfl #[.int .i64 a1, .int .i64 (l0.length : Int)] rfl zm ?_; (with_reducible refine (impl_isIndex.calls a1 (l0.length : Int) false _ A4.out).mono ?_); rintro e w' ⟨rfl, ⟨nd, rfl⟩⟩; refine ⟨_, rfl, ?_⟩))
  go_ret
  exact ⟨by first | rfl | (simp; done) | (simp [*]; done), by repeat (first | exact Drawn0.refl _ | apply Drawn0.step)⟩

end Go.Proofs.Ytddejaomlnldiaa.PFnStops
