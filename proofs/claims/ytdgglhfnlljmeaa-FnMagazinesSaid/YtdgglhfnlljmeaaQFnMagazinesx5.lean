/- Functions and contracts that FnMagazines reaches (6 of 24). -/
import Derived.Test.YtdgglhfnlljmeaaQFnMagazinesx4
namespace Go.Proofs.Ytdgglhfnlljmeaa.PFnMagazines
open Go.RowKit Go.Proofs.YtdgglhfnlljmeaaW.PrintWords Go.Proofs.YtdgglhfnlljmeaaW.PrintLast Go.Proofs.YtdgglhfnlljmeaaW.PrintMore
attribute [local go_sem] max2_int min2_int max_two min_two max_three min_three max_four min_four   -- for this text's walks alone
set_option linter.unusedVariables false
set_option linter.unusedSimpArgs false

/-! ### impl_NetIn: function 28 -/
def impl_NetIn.f (k : Nat) (l0 : List (S65)) (a1_0 : Int) (l1_1 : List Int) : Option (Int × Int) := (impl_IsMagazine.f k l0 a1_0 l1_1).bind fun t154 => (if t154 = true then ((impl_netIn.f k l0 a1_0 l1_1).bind fun t155 => (some (t155, 0))) else (some (0, 1)))
theorem impl_NetIn.mono : ∀ a0 a1 a2 k, LeO (impl_NetIn.f k a0 a1 a2) (impl_NetIn.f (k + 1) a0 a1 a2) := by
 intro a0 a1 a2 k
 unfold impl_NetIn.f
 repeat' first
   | (with_reducible exact impl_IsMagazine.mono _ _ _ _)
   | (with_reducible exact impl_netIn.mono _ _ _ _)
   | (with_reducible exact LeO.refl _)
   | (with_reducible exact LeO.none _)
   | (with_reducible refine LeO.ite ?_ ?_)
   | (with_reducible refine LeO.bind ?_ (fun _ => ?_))
   | exact impl_IsMagazine.mono _ _ _ _
   | exact impl_netIn.mono _ _ _ _
   | exact LeO.none _
   | refine LeO.ite ?_ ?_
   | refine LeO.bind ?_ (fun _ => ?_)
set_option maxHeartbeats 8000000 in
set_option maxRecDepth 100000 in
theorem impl_NetIn.calls (k : Nat) (A0 : Option Addr) (c0 : Nat) (l0 : List (S65)) (a1_0 : Int) (A1_1 : Option Addr) (c1_1 : Nat) (l1_1 : List Int) (r1 : Int) (r2 : Int) (w : World) (hr0 : Kd.C k65 w A0 l0.length l0) (hc0 : l0.length ≤ c0) (hr1_1 : Kd.C (Kd.int .i64) w A1_1 l1_1.length l1_1) (hc1_1 : l1_1.length ≤ c1_1) (h : impl_NetIn.f k l0 a1_0 l1_1 = some (r1, r2)) :
  Calls Try.prog 28 #[.slice A0 l0.length c0, .agg #[.int .i64 a1_0, .slice A1_1 l1_1.length c1_1]] w fun e w' => e = .returned (.tuple #[.int .i64 r1, .int .i64 r2]) ∧ Below w.heap.size w w' := by
 have hu28 := Try.underlying28
 have HR0 := jA hr0
 have HC0 := jA hc0
 clear hr0 hc0
 have HR1_1 := jA hr1_1
 have HC1_1 := jA hc1_1
 clear hr1_1 hc1_1
 have HB := jA (Below.refl w.heap.size w)
 have H := h
 unfold impl_NetIn.f at H
 clear h
 replace H := jB.mp H
 obtain ⟨t154, A30, H⟩ := H
 try dsimp only at H
 have A3 := jA A30
 clear A30
 by_cases c4 : t154 = true
 ·subst c4
  rw [if_pos rfl] at H
  replace H := jB.mp H
  obtain ⟨t155, A50, H⟩ := H
  replace H : (some (t155, 0)) = some (r1, r2) := H
  have A5 := jA A50
  clear A50
  simp only [jN, jO] at H
  obtain ⟨rfl, rfl⟩ := H
  go_enter Try.func28, Try.ntmps28
  go_wp2_with (first | ((with_reducible refine jL (N := 3) rfl ?_); refine zE 3 #[.int .i64 a1_0, .slice A1_1 l1_1.length c1_1] 28 ?_; intro gb153 hg w6 hbox hb; have BK153 := jA (hbox); have GW153 := zg0 hg HB; have GE153 := zg0 hg HB; replace HB := zS0 HB hb; clear hb hbox hg; have hcz7 := zc2 BK153) | ((with_reducible refine jD (f := 26) rfl ?_); refine zL (some 8) Try.func26 #[.slice A0 l0.length c0, .agg #[.int .i64 a1_0, .slice A1_1 l1_1.length c1_1]] ?_; (with_reducible refine (impl_IsMagazine.calls k _ _ l0 a1_0 _ _ l1_1 true _ ?side1 ?side2 ?side3 ?side4 A3.out).mono ?_); (case side1 => exact zs HR0 HB); (case side2 => exact HC0.out); (case side3 => exact zs HR1_1 HB); (case side4 => exact HC1_1.out); rintro e w8 ⟨rfl, hb⟩; refine ⟨_, rfl, ?_⟩; replace BK153 := zB BK153 hb; replace HB := zS1 HB GE153 hb; clear hb; have hcz9 := zc2 BK153) | ((with_reducible refine jD (f := 64) rfl ?_); refine zL (some 12) Try.func64 #[.slice A0 l0.length c0, .agg #[.int .i64 a1_0, .slice A1_1 l1_1.length c1_1]] ?_; (with_reducible refine (impl_netIn.calls k _ _ l0 a1_0 _ _ l1_1 t155 _ ?side1 ?side2 ?side3 ?side4 A5.out).mono ?_); (case side1 => exact zs HR0 HB); (case side2 => exact HC0.out); (case side3 => exact zs HR1_1 HB); (case side4 => exact HC1_1.out); rintro e w10 ⟨rfl, hb⟩; refine ⟨_, rfl, ?_⟩; replace BK153 := zB BK153 hb; replace HB := zS1 HB GE153 hb; clear hb))
  go_ret2
  exact ⟨ze, zb1 HB GE153⟩
 ·replace c4 := Bool.eq_false_iff.mpr c4
  subst c4
  rw [if_neg zfalse] at H
  simp only [jN, jO] at H
  obtain ⟨rfl, rfl⟩ := H
  go_enter Try.func28, Try.ntmps28
  go_wp2_with (first | ((with_reducible refine jL (N := 3) rfl ?_); refine zE 3 #[.int .i64 a1_0, .slice A1_1 l1_1.length c1_1] 28 ?_; intro gb153 hg w11 hbox hb; have BK153 := jA (hbox); have GW153 := zg0 hg HB; have GE153 := zg0 hg HB; replace HB := zS0 HB hb; clear hb hbox hg; have hcz12 := zc2 BK153) | ((with_reducible refine jD (f := 26) rfl ?_); refine zL (some 8) Try.func26 #[.slice A0 l0.length c0, .agg #[.int .i64 a1_0, .slice A1_1 l1_1.length c1_1]] ?_; (with_reducible refine (impl_IsMagazine.calls k _ _ l0 a1_0 _ _ l1_1 false _ ?side1 ?side2 ?side3 ?side4 A3.out).mono ?_); (case side1 => exact zs HR0 HB); (case side2 => exact HC0.out); (case side3 => exact zs HR1_1 HB); (case side4 => exact HC1_1.out); rintro e w13 ⟨rfl, hb⟩; refine ⟨_, rfl, ?_⟩; replace BK153 := zB BK153 hb; replace HB := zS1 HB GE153 hb; clear hb))
  go_ret2
  exact ⟨ze, zb1 HB GE153⟩

/-! ### spec_l26Mixed: function 67 -/
def spec_l26Mixed.l0 : Nat → List (S65) → Bool → Bool → Int → Int → List Int → Option (Bool)
 | 0, _, _, _, _, _, _ => none
 | k + 1, x0, x5, x6, x7, x157000, x157001 => if x7 < (x0.length : Int) then (if 0 ≤ x7 then (if x7 < (x157001.length : Int) then (if (rd x157001 x7) > 0 then (if x5 = true then (if x6 = true then (spec_l26Mixed.l0 k x0 true true (wrap64 (x7 + 1)) x157000 x157001) else (spec_l26Mixed.l0 k x0 true (((rd_T65 x0 x7).f8) != 3) (wrap64 (x7 + 1)) x157000 x157001)) else (if x6 = true then (spec_l26Mixed.l0 k x0 (((rd_T65 x0 x7).f8) == 3) true (wrap64 (x7 + 1)) x157000 x157001) else (spec_l26Mixed.l0 k x0 (((rd_T65 x0 x7).f8) == 3) (((rd_T65 x0 x7).f8) != 3) (wrap64 (x7 + 1)) x157000 x157001))) else (spec_l26Mixed.l0 k x0 x5 x6 (wrap64 (x7 + 1)) x157000 x157001)) else (none)) else (none)) else (if x5 = true then (some x6) else (some false))
def spec_l26Mixed.f (k : Nat) (l0 : List (S65)) (a1_0 : Int) (l1_1 : List Int) : Option (Bool) := spec_l26Mixed.l0 k l0 false false 0 a1_0 l1_1
theorem spec_l26Mixed.mono_l : ∀ k, (∀ y0 y1 y2 y3 y4 y5, LeO (spec_l26Mixed.l0 k y0 y1 y2 y3 y4 y5) (spec_l26Mixed.l0 (k + 1) y0 y1 y2 y3 y4 y5))
 | 0 => fun _ _ _ _ _ _ r h => by simp [spec_l26Mixed.l0] at h
 | k + 1 => by
  have ih0 := spec_l26Mixed.mono_l k
  ·intro y0 y1 y2 y3 y4 y5
   unfold spec_l26Mixed.l0
   repeat' first
   | (with_reducible exact ih0 _ _ _ _ _ _)
   | (with_reducible exact LeO.refl _)
   | (with_reducible exact LeO.none _)
   | (with_reducible refine LeO.ite ?_ ?_)
   | (with_reducible refine LeO.bind ?_ (fun _ => ?_))
   | exact ih0 _ _ _ _ _ _
   | exact LeO.none _
   | refine LeO.ite ?_ ?_
   | refine LeO.bind ?_ (fun _ => ?_)
theorem spec_l26Mixed.mono : ∀ a0 a1 a2 k, LeO (spec_l26Mixed.f k a0 a1 a2) (spec_l26Mixed.f (k + 1) a0 a1 a2) := by
 intro a0 a1 a2 k
 have ih0 := spec_l26Mixed.mono_l k
 unfold spec_l26Mixed.f
 repeat' first
   | (with_reducible exact ih0 _ _ _ _ _ _)
   | (with_reducible exact LeO.refl _)
   | (with_reducible exact LeO.none _)
   | (with_reducible refine LeO.ite ?_ ?_)
   | (with_reducible refine LeO.bind ?_ (fun _ => ?_))
   | exact ih0 _ _ _ _ _ _
   | exact LeO.none _
   | refine LeO.ite ?_ ?_
   | refine LeO.bind ?_ (fun _ => ?_)
set_option maxHeartbeats 8000000 in
set_option maxRecDepth 100000 in
theorem spec_l26Mixed.calls (k : Nat) (A0 : Option Addr) (c0 : Nat) (l0 : List (S65)) (a1_0 : Int) (A1_1 : Option Addr) (c1_1 : Nat) (l1_1 : List Int) (r : Bool) (w : World) (hr0 : Kd.C k65 w A0 l0.length l0) (hc0 : l0.length ≤ c0) (hr1_1 : Kd.C (Kd.int .i64) w A1_1 l1_1.length l1_1) (hc1_1 : l1_1.length ≤ c1_1) (h : spec_l26Mixed.f k l0 a1_0 l1_1 = some r) :
  Calls Try.prog 67 #[.slice A0 l0.length c0, .agg #[.int .i64 a1_0, .slice A1_1 l1_1.length c1_1]] w fun e w' => e = .returned (.bool r) ∧ Below w.heap.size w w' := by
 have hu28 := Try.underlying28
 have HR0 := jA hr0
 have HC0 := jA hc0
 clear hr0 hc0
 have HR1_1 := jA hr1_1
 have HC1_1 := jA hc1_1
 clear hr1_1 hc1_1
 have HB := jA (Below.refl w.heap.size w)
 have H : (spec_l26Mixed.l0 k l0 false false 0 a1_0 l1_1) = some r := h
 clear h
 have H' := jA H
 clear H
 go_enter Try.func67, Try.ntmps67
 go_wp2_with (first | ((with_reducible refine jL (N := 3) rfl ?_); refine zE 3 #[.int .i64 a1_0, .slice A1_1 l1_1.length c1_1] 28 ?_; intro gb156 hg w3 hbox hb; have BK156 := jA (hbox); have GW156 := zg0 hg HB; have GE156 := zg0 hg HB; replace HB := zS0 HB hb; clear hb hbox hg))
 go_loopg [5, 6, 7] k (fun kq v5 v6 v7 w' => ∃ (x5_1 : Bool) (x6_1 : Bool) (x7_1 : Int), v5 = .bool x5_1 ∧ v6 = .bool x6_1 ∧ v7 = .int .i64 x7_1 ∧ Aside0 (spec_l26Mixed.l0 kq l0 x5_1 x6_1 x7_1 a1_0 l1_1 = some r) ∧ Aside0 (kq ≤ k) ∧ Aside0 (w'.heap[gb156]? = some (.cells #[.int .i64 a1_0, (.slice A1_1 l1_1.length c1_1)] 28 (0, 0))) ∧ Aside0 (Below w.heap.size w w'))
 case atStart => exact ⟨(false), (false), (0), zz, zz, zz, H', ⟨Nat.le_refl _⟩, ⟨zk BK156⟩, ⟨zb1 HB GE156⟩⟩
 case round =>
  clear H'
  try clear c1
  try clear p2
  obtain ⟨x5_1, x6_1, x7_1, rfl, rfl, rfl, HA, HK1, BK156, HB⟩ := hrel
  cases gk with
  | zero => exact absurd HA.out (by simp [spec_l26Mixed.l0])
  | succ k1 =>
   have H := HA.out
   clear HA
   simp only [spec_l26Mixed.l0] at H
   by_cases c4 : x7_1 < (l0.length : Int)
   ·rw [if_pos c4] at H
    have c4b0 : decide (x7_1 < (l0.length : Int)) = true := jJ c4
    clear c4
    by_cases c5 : 0 ≤ x7_1
    ·rw [if_pos c5] at H
     have c5b0 : decide (0 ≤ x7_1) = true := jJ c5
     clear c5
     by_cases c6 : x7_1 < (l1_1.length : Int)
     ·rw [if_pos c6] at H
      have c6b0 : decide (x7_1 < (l1_1.length : Int)) = true := jJ c6
      clear c6
      by_cases c7 : (rd l1_1 x7_1) > 0
      ·rw [if_pos c7] at H
       have c7b0 : decide (0 < (rd l1_1 x7_1)) = true := jJ c7
       clear c7
       by_cases c8 : x5_1 = true
       ·subst c8
        rw [if_pos rfl] at H
        by_cases c9 : x6_1 = true
        ·subst c9
         rw [if_pos rfl] at H
         have H' := jA H
         clear H
         have hcz10 := zc2 BK156
         have p157 : 0 ≤ (x7_1 : Int) := jC za
         have q157 : x7_1 < (l1_1.length : Int) := jC za
         obtain ⟨ad157, e157, hx157_0⟩ := Kd.at_int HR1_1.out x7_1 p157 q157
         cases e157
         replace hx157_0 := zx HB hx157_0
         replace p157 := eq_true p157
         replace q157 := eq_true q157
         go_wp2
         go_roundg k1
         case measure => have := HK1.out; omega
         case rel => exact ⟨(true), (true), (wrap64 (x7_1 + 1)), zz, zz, zz, H', ⟨by have := HK1.out; omega⟩, ⟨zk BK156⟩, ⟨zb1 HB GE156⟩⟩
        ·replace c9 := Bool.eq_false_iff.mpr c9
         subst c9
         rw [if_neg zfalse] at H
         have H' := jA H
         clear H
         have hcz11 := zc2 BK156
         have p157 : 0 ≤ (x7_1 : Int) := jC za
         have q157 : x7_1 < (l1_1.length : Int) := jC za
         obtain ⟨ad157, e157, hx157_0⟩ := Kd.at_int HR1_1.out x7_1 p157 q157
         cases e157
         replace hx157_0 := zx HB hx157_0
         replace p157 := eq_true p157
         replace q157 := eq_true q157
         have p158 : 0 ≤ (x7_1 : Int) := jC za
         have q158 : x7_1 < (l0.length : Int) := jC za
         obtain ⟨ad158, e158, hx158_0, hx158_1, hx158_2, hx158_3, hx158_4, hx158_5, hx158_6, hx158_7, hx158_8⟩ := at_T65 HR0.out x7_1 p158 q158
         cases e158
         replace hx158_0 := zx HB hx158_0
         replace hx158_1 := zx HB hx158_1
         replace hx158_2 := zx HB hx158_2
         replace hx158_3 := zx HB hx158_3
         replace hx158_4 := zx HB hx158_4
         replace hx158_5 := zx HB hx158_5
         replace hx158_6 := zx HB hx158_6
         replace hx158_7 := zx HB hx158_7
         replace hx158_8 := zx HB hx158_8
         replace p158 := eq_true p158
         replace q158 := eq_true q158
         go_wp2
         go_roundg k1
         case measure => have := HK1.out; omega
         case rel => exact ⟨(true), ((((rd_T65 l0 x7_1).f8) != 3)), (wrap64 (x7_1 + 1)), zz, zz, zz, H', ⟨by have := HK1.out; omega⟩, ⟨zk BK156⟩, ⟨zb1 HB GE156⟩⟩
       ·replace c8 := Bool.eq_false_iff.mpr c8
        subst c8
        rw [if_neg zfalse] at H
        by_cases c12 : x6_1 = true
        ·subst c12
         rw [if_pos rfl] at H
         have H' := jA H
         clear H
         have hcz13 := zc2 BK156
         have p157 : 0 ≤ (x7_1 : Int) := jC za
         have q157 : x7_1 < (l1_1.length : Int) := jC za
         obtain ⟨ad157, e157, hx157_0⟩ := Kd.at_int HR1_1.out x7_1 p157 q157
         cases e157
         replace hx157_0 := zx HB hx157_0
         replace p157 := eq_true p157
         replace q157 := eq_true q157
         have p159 : 0 ≤ (x7_1 : Int) := jC za
         have q159 : x7_1 < (l0.length : Int) := jC za
         obtain ⟨ad159, e159, hx159_0, hx159_1, hx159_2, hx159_3, hx159_4, hx159_5, hx159_6, hx159_7, hx159_8⟩ := at_T65 HR0.out x7_1 p159 q159
         cases e159
         replace hx159_0 := zx HB hx159_0
         replace hx159_1 := zx HB hx159_1
         replace hx159_2 := zx HB hx159_2
         replace hx159_3 := zx HB hx159_3
         replace hx159_4 := zx HB hx159_4
         replace hx159_5 := zx HB hx159_5
         replace hx159_6 := zx HB hx159_6
         replace hx159_7 := zx HB hx159_7
         replace hx159_8 := zx HB hx159_8
         replace p159 := eq_true p159
         replace q159 := eq_true q159
         go_wp2
         go_roundg k1
         case measure => have := HK1.out; omega
         case rel => exact ⟨((((rd_T65 l0 x7_1).f8) == 3)), (true), (wrap64 (x7_1 + 1)), zz, zz, zz, H', ⟨by have := HK1.out; omega⟩, ⟨zk BK156⟩, ⟨zb1 HB GE156⟩⟩
        ·replace c12 := Bool.eq_false_iff.mpr c12
         subst c12
         rw [if_neg zfalse] at H
         have H' := jA H
         clear H
         have hcz14 := zc2 BK156
         have p157 : 0 ≤ (x7_1 : Int) := jC za
         have q157 : x7_1 < (l1_1.length : Int) := jC za
         obtain ⟨ad157, e157, hx157_0⟩ := Kd.at_int HR1_1.out x7_1 p157 q157
         cases e157
         replace hx157_0 := zx HB hx157_0
         replace p157 := eq_true p157
         replace q157 := eq_true q157
         have p159 : 0 ≤ (x7_1 : Int) := jC za
         have q159 : x7_1 < (l0.length : Int) := jC za
         obtain ⟨ad159, e159, hx159_0, hx159_1, hx159_2, hx159_3, hx159_4, hx159_5, hx159_6, hx159_7, hx159_8⟩ := at_T65 HR0.out x7_1 p159 q159
         cases e159
         replace hx159_0 := zx HB hx159_0
         replace hx159_1 := zx HB hx159_1
         replace hx159_2 := zx HB hx159_2
         replace hx159_3 := zx HB hx159_3
         replace hx159_4 := zx HB hx159_4
         replace hx159_5 := zx HB hx159_5
         replace hx159_6 := zx HB hx159_6
         replace hx159_7 := zx HB hx159_7
         replace hx159_8 := zx HB hx159_8
         replace p159 := eq_true p159
         replace q159 := eq_true q159
         have p160 : 0 ≤ (x7_1 : Int) := jC za
         have q160 : x7_1 < (l0.length : Int) := jC za
         obtain ⟨ad160, e160, hx160_0, hx160_1, hx160_2, hx160_3, hx160_4, hx160_5, hx160_6, hx160_7, hx160_8⟩ := at_T65 HR0.out x7_1 p160 q160
         obtain rfl : ad159 = ad160 := (by injection e160)
         replace hx160_0 := zx HB hx160_0
         replace hx160_1 := zx HB hx160_1
         replace hx160_2 := zx HB hx160_2
         replace hx160_3 := zx HB hx160_3
         replace hx160_4 := zx HB hx160_4
         replace hx160_5 := zx HB hx160_5
         replace hx160_6 := zx HB hx160_6
         replace hx160_7 := zx HB hx160_7
         replace hx160_8 := zx HB hx160_8
         replace p160 := eq_true p160
         replace q160 := eq_true q160
         go_wp2
         go_roundg k1
         case measure => have := HK1.out; omega
         case rel => exact ⟨((((rd_T65 l0 x7_1).f8) == 3)), ((((rd_T65 l0 x7_1).f8) != 3)), (wrap64 (x7_1 + 1)), zz, zz, zz, H', ⟨by have := HK1.out; omega⟩, ⟨zk BK156⟩, ⟨zb1 HB GE156⟩⟩
      ·rw [if_neg c7] at H
       have c7b0 : decide (0 < (rd l1_1 x7_1)) = false := jQ c7
       clear c7
       have H' := jA H
       clear H
       have hcz15 := zc2 BK156
       have p157 : 0 ≤ (x7_1 : Int) := jC za
       have q157 : x7_1 < (l1_1.length : Int) := jC za
       obtain ⟨ad157, e157, hx157_0⟩ := Kd.at_int HR1_1.out x7_1 p157 q157
       cases e157
       replace hx157_0 := zx HB hx157_0
       replace p157 := eq_true p157
       replace q157 := eq_true q157
       go_wp2
       go_roundg k1
       case measure => have := HK1.out; omega
       case rel => exact ⟨(x5_1), (x6_1), (wrap64 (x7_1 + 1)), zz, zz, zz, H', ⟨by have := HK1.out; omega⟩, ⟨zk BK156⟩, ⟨zb1 HB GE156⟩⟩
     ·rw [if_neg c6] at H
      exact absurd H (by simp)
    ·rw [if_neg c5] at H
     exact absurd H (by simp)
   ·rw [if_neg c4] at H
    have c4b0 : decide (x7_1 < (l0.length : Int)) = false := jQ c4
    clear c4
    by_cases c16 : x5_1 = true
    ·subst c16
     rw [if_pos rfl] at H
     obtain rfl := jK H
     go_wp2
     go_ret
     exact ⟨ze, zb1 HB GE156⟩
    ·replace c16 := Bool.eq_false_iff.mpr c16
     subst c16
     rw [if_neg zfalse] at H
     obtain rfl := jK H
     go_wp2
     go_ret
     exact ⟨ze, zb1 HB GE156⟩

/-! ### spec_l26Lawful: function 65 -/
def spec_l26Lawful.f (k : Nat) (l0 : List (S65)) (a1_0 : Int) (l1_1 : List Int) : Option (Bool) := (spec_l26Net.f k l0 a1_0 l1_1).bind fun t162 => (if t162 ≤ a1_0 then ((spec_l26Mixed.f k l0 a1_0 l1_1).bind fun t163 => (some (!t163))) else (some false))
theorem spec_l26Lawful.mono : ∀ a0 a1 a2 k, LeO (spec_l26Lawful.f k a0 a1 a2) (spec_l26Lawful.f (k + 1) a0 a1 a2) := by
 intro a0 a1 a2 k
 unfold spec_l26Lawful.f
 repeat' first
   | (with_reducible exact spec_l26Mixed.mono _ _ _ _)
   | (with_reducible exact spec_l26Net.mono _ _ _ _)
   | (with_reducible exact LeO.refl _)
   | (with_reducible exact LeO.none _)
   | (with_reducible refine LeO.ite ?_ ?_)
   | (with_reducible refine LeO.bind ?_ (fun _ => ?_))
   | exact spec_l26Mixed.mono _ _ _ _
   | exact spec_l26Net.mono _ _ _ _
   | exact LeO.none _
   | refine LeO.ite ?_ ?_
   | refine LeO.bind ?_ (fun _ => ?_)
def spec_l26Lawful.T1 : Bool × List (List Nat × List Nat) := (true, [([], []), ([], []), ([0, 1], [0, 1]), ([], []), ([3], [3]), ([2, 4], [2, 4]), ([5, 2], [5]), ([6], [6]), ([6], [6]), ([7, 8, 6, 6], [6, 7, 8]), ([9, 6], [6, 9]), ([6, 10], [6, 10]), ([11, 9, 0, 1, 2, 3, 4, 5, 6, 7, 8, 9, 10, 11], [11])])
def spec_l26Lawful.B1 : List Nat := [0, 0, 3, 0, 8, 31, 63, 127, 127, 511, 1023, 2047, 4095]
theorem spec_l26Lawful.tab1 : rtab .any (opsOf Try.f65 1) = spec_l26Lawful.T1 := by kernel_rfl
theorem spec_l26Lawful.bits1 : waitsOk spec_l26Lawful.T1.2 spec_l26Lawful.B1 = true := by kernel_rfl
set_option maxHeartbeats 8000000 in
set_option maxRecDepth 100000 in
theorem spec_l26Lawful.calls (k : Nat) (A0 : Option Addr) (c0 : Nat) (l0 : List (S65)) (a1_0 : Int) (A1_1 : Option Addr) (c1_1 : Nat) (l1_1 : List Int) (r : Bool) (w : World) (hr0 : Kd.C k65 w A0 l0.length l0) (hc0 : l0.length ≤ c0) (hr1_1 : Kd.C (Kd.int .i64) w A1_1 l1_1.length l1_1) (hc1_1 : l1_1.length ≤ c1_1) (h : spec_l26Lawful.f k l0 a1_0 l1_1 = some r) :
  Calls Try.prog 65 #[.slice A0 l0.length c0, .agg #[.int .i64 a1_0, .slice A1_1 l1_1.length c1_1]] w fun e w' => e = .returned (.bool r) ∧ Below w.heap.size w w' := by
 have hu28 := Try.underlying28
 have HR0 := jA hr0
 have HC0 := jA hc0
 clear hr0 hc0
 have HR1_1 := jA hr1_1
 have HC1_1 := jA hc1_1
 clear hr1_1 hc1_1
 have HB := jA (Below.refl w.heap.size w)
 have H := h
 unfold spec_l26Lawful.f at H
 clear h
 replace H := jB.mp H
 obtain ⟨t162, A30, H⟩ := H
 try dsimp only at H
 have A3 := jA A30
 clear A30
 by_cases c4 : t162 ≤ a1_0
 ·rw [if_pos c4] at H
  have c4b0 : decide (t162 ≤ a1_0) = true := jJ c4
  clear c4
  replace H := jB.mp H
  obtain ⟨t163, A50, H⟩ := H
  replace H : (some (!t163)) = some r := H
  have A5 := jA A50
  clear A50
  obtain rfl := jK H
  go_enter Try.func65, Try.ntmps65
  try go_wp2_with (first | ((with_reducible refine jL (N := 3) rfl ?_); refine zE 3 #[.int .i64 a1_0, .slice A1_1 l1_1.length c1_1] 28 ?_; intro gb161 hg w6 hbox hb; have BK161 := jA (hbox); have GW161 := zg0 hg HB; have GE161 := zg0 hg HB; replace HB := zS0 HB hb; clear hb hbox hg))
  replace BK161 := jA (blk_drew BK161.out)
  replace HB := jA (below_drew1 HB.out)
  refine start_ (n := 13) (S := fun w' => w'.cell? ⟨gb161, 0, none⟩ = some (.int .i64 a1_0) ∧ w'.cell? ⟨gb161, 1, none⟩ = some (.slice A1_1 l1_1.length c1_1)) (ds := []) m13_0 zr rfl rfl ⟨(jG BK161.out 0).trans rfl, (jG BK161.out 1).trans rfl⟩ (fun hHeld => ?_); refine with_tabW spec_l26Lawful.tab1 spec_l26Lawful.bits1 (fun HT_ HW_ => ?_)
  generalize w6.drew = w7 at BK161 HB hHeld ⊢
  refine zp HT_ 0 5 m13_1000 ?_
  refine zp HT_ 3 8 m13_1200 ?_
  refine zt2 HT_ HW_ hHeld 1 6 m13_1a00 ?_
  refine zt2 HT_ HW_ hHeld 4 9 m13_1b00 ?_
  refine one_ (i := 2) (N := some 7) m13_1f00 rfl rfl (one_of HT_.out zr) (by decide) (fun K hK => ?_)
  refine goes_ Try.func63 zr rfl #[.slice A0 l0.length c0, .agg #[.int .i64 a1_0, .slice A1_1 l1_1.length c1_1]] (by rfl) rfl rfl zm ?_
  with_reducible refine (spec_l26Net.calls k _ _ l0 a1_0 _ _ l1_1 t162 _ ?side1 ?side2 ?side3 ?side4 A3.out).mono ?_
  (case side1 => exact zs HR0 HB)
  (case side2 => exact HC0.out)
  (case side3 => exact zs HR1_1 HB)
  (case side4 => exact HC1_1.out)
  rintro e w8 ⟨rfl, hb⟩
  refine ⟨_, rfl, ?_⟩
  replace BK161 := zB BK161 hb
  replace HB := zS1 HB GE161 hb
  (try clear hb)
  (try clear hb2)
  (try clear hk)
  (try clear hi)
  refine hK.out _ _ ⟨(jG BK161.out 0).trans rfl, (jG BK161.out 1).trans rfl⟩ (fun hHeld => ?_)
  clear hK K
  refine norm_ (a' := ?_) ?_ ?_
  rotate_left
  ·show Act.put _ (some 7) _ = _
   simp only [Act.put, jE, jH, jI, i64_w, i32_w]
   rfl
  refine zp HT_ 5 10 m13_1f80 ?_
  refine zp HT_ 6 11 m13_1fc0 ?_
  refine zp HT_ 7 12 m13_1fe0 ?_
  refine zt2 HT_ HW_ hHeld 8 13 m13_1ff0 ?_
  refine one_ (i := 9) (N := some 14) m13_1ff8 rfl rfl (one_of HT_.out zr) (by decide) (fun K hK => ?_)
  refine goes_ Try.func67 zr rfl #[.slice A0 l0.length c0, .agg #[.int .i64 a1_0, .slice A1_1 l1_1.length c1_1]] (by rfl) rfl rfl zm ?_
  with_reducible refine (spec_l26Mixed.calls k _ _ l0 a1_0 _ _ l1_1 t163 _ ?side1 ?side2 ?side3 ?side4 A5.out).mono ?_
  (case side1 => exact zs HR0 HB)
  (case side2 => exact HC0.out)
  (case side3 => exact zs HR1_1 HB)
  (case side4 => exact HC1_1.out)
  rintro e w9 ⟨rfl, hb⟩
  refine ⟨_, rfl, ?_⟩
  replace BK161 := zB BK161 hb
  replace HB := zS1 HB GE161 hb
  (try clear hb)
  (try clear hb2)
  (try clear hk)
  (try clear hi)
  refine hK.out _ _ ⟨(jG BK161.out 0).trans rfl, (jG BK161.out 1).trans rfl⟩ (fun hHeld => ?_)
  clear hK K
  refine norm_ (a' := ?_) ?_ ?_
  rotate_left
  ·show Act.put _ (some 14) _ = _
   simp only [Act.put, jE, jH, jI, i64_w, i32_w]
   rfl
  refine zp HT_ 10 15 m13_1ffc ?_
  refine zp HT_ 11 16 m13_1ffe ?_
  refine zp HT_ 12 4 m13_1fff ?_
  refine done_ (done_of HT_.out zr) ?_
  try go_wp2
  go_ret
  exact ⟨ze, zb1 HB GE161⟩
 ·rw [if_neg c4] at H
  have c4b0 : decide (t162 ≤ a1_0) = false := jQ c4
  clear c4
  obtain rfl := jK H
  go_enter Try.func65, Try.ntmps65
  try go_wp2_with (first | ((with_reducible refine jL (N := 3) rfl ?_); refine zE 3 #[.int .i64 a1_0, .slice A1_1 l1_1.length c1_1] 28 ?_; intro gb161 hg w10 hbox hb; have BK161 := jA (hbox); have GW161 := zg0 hg HB; have GE161 := zg0 hg HB; replace HB := zS0 HB hb; clear hb hbox hg))
  replace BK161 := jA (blk_drew BK161.out)
  replace HB := jA (below_drew1 HB.out)
  refine start_ (n := 13) (S := fun w' => w'.cell? ⟨gb161, 0, none⟩ = some (.int .i64 a1_0) ∧ w'.cell? ⟨gb161, 1, none⟩ = some (.slice A1_1 l1_1.length c1_1)) (ds := []) m13_0 zr rfl rfl ⟨(jG BK161.out 0).trans rfl, (jG BK161.out 1).trans rfl⟩ (fun hHeld => ?_); refine with_tabW spec_l26Lawful.tab1 spec_l26Lawful.bits1 (fun HT_ HW_ => ?_)
  generalize w10.drew = w11 at BK161 HB hHeld ⊢
  refine zp HT_ 0 5 m13_1000 ?_
  refine zp HT_ 3 8 m13_1200 ?_
  refine zt2 HT_ HW_ hHeld 1 6 m13_1a00 ?_
  refine zt2 HT_ HW_ hHeld 4 9 m13_1b00 ?_
  refine one_ (i := 2) (N := some 7) m13_1f00 rfl rfl (one_of HT_.out zr) (by decide) (fun K hK => ?_)
  refine goes_ Try.func63 zr rfl #[.slice A0 l0.length c0, .agg #[.int .i64 a1_0, .slice A1_1 l1_1.length c1_1]] (by rfl) rfl rfl zm ?_
  with_reducible refine (spec_l26Net.calls k _ _ l0 a1_0 _ _ l1_1 t162 _ ?side1 ?side2 ?side3 ?side4 A3.out).mono ?_
  (case side1 => exact zs HR0 HB)
  (case side2 => exact HC0.out)
  (case side3 => exact zs HR1_1 HB)
  (case side4 => exact HC1_1.out)
  rintro e w12 ⟨rfl, hb⟩
  refine ⟨_, rfl, ?_⟩
  replace BK161 := zB BK161 hb
  replace HB := zS1 HB GE161 hb
  (try clear hb)
  (try clear hb2)
  (try clear hk)
  (try clear hi)
  refine hK.out _ _ ⟨(jG BK161.out 0).trans rfl, (jG BK161.out 1).trans rfl⟩ (fun hHeld => ?_)
  clear hK K
  refine norm_ (a' := ?_) ?_ ?_
  rotate_left
  ·show Act.put _ (some 7) _ = _
   simp only [Act.put, jE, jH, jI, i64_w, i32_w]
   rfl
  refine zp HT_ 5 10 m13_1f80 ?_
  refine zp HT_ 6 11 m13_1fc0 ?_
  refine zq HT_ 7 12 m13_1fe0 ?_
  refine zq HT_ 8 13 m13_1ff0 ?_
  refine zq HT_ 9 14 m13_1ff8 ?_
  refine zq HT_ 10 15 m13_1ffc ?_
  refine zp HT_ 11 16 m13_1ffe ?_
  refine zp HT_ 12 4 m13_1fff ?_
  refine done_ (done_of HT_.out zr) ?_
  try go_wp2
  go_ret
  exact ⟨ze, zb1 HB GE161⟩

/-! ### spec_IsLawful: function 29 -/
def spec_IsLawful.f (k : Nat) (l0 : List (S65)) (a1_0 : Int) (l1_1 : List Int) : Option (Bool × Int) := (spec_IsMagazine.f k l0 a1_0 l1_1).bind fun t165 => (if t165 = true then ((spec_l26Lawful.f k l0 a1_0 l1_1).bind fun t166 => (some (t166, 0))) else (some (false, 1)))
theorem spec_IsLawful.mono : ∀ a0 a1 a2 k, LeO (spec_IsLawful.f k a0 a1 a2) (spec_IsLawful.f (k + 1) a0 a1 a2) := by
 intro a0 a1 a2 k
 unfold spec_IsLawful.f
 repeat' first
   | (with_reducible exact spec_IsMagazine.mono _ _ _ _)
   | (with_reducible exact spec_l26Lawful.mono _ _ _ _)
   | (with_reducible exact LeO.refl _)
   | (with_reducible exact LeO.none _)
   | (with_reducible refine LeO.ite ?_ ?_)
   | (with_reducible refine LeO.bind ?_ (fun _ => ?_))
   | exact spec_IsMagazine.mono _ _ _ _
   | exact spec_l26Lawful.mono _ _ _ _
   | exact LeO.none _
   | refine LeO.ite ?_ ?_
   | refine LeO.bind ?_ (fun _ => ?_)
set_option maxHeartbeats 8000000 in
set_option maxRecDepth 100000 in
theorem spec_IsLawful.calls (k : Nat) (A0 : Option Addr) (c0 : Nat) (l0 : List (S65)) (a1_0 : Int) (A1_1 : Option Addr) (c1_1 : Nat) (l1_1 : List Int) (r1 : Bool) (r2 : Int) (w : World) (hr0 : Kd.C k65 w A0 l0.length l0) (hc0 : l0.length ≤ c0) (hr1_1 : Kd.C (Kd.int .i64) w A1_1 l1_1.length l1_1) (hc1_1 : l1_1.length ≤ c1_1) (h : spec_IsLawful.f k l0 a1_0 l1_1 = some (r1, r2)) :
  Calls Try.prog 29 #[.slice A0 l0.length c0, .agg #[.int .i64 a1_0, .slice A1_1 l1_1.length c1_1]] w fun e w' => e = .returned (.tuple #[.bool r1, .int .i64 r2]) ∧ Below w.heap.size w w' := by
 have hu28 := Try.underlying28
 have HR0 := jA hr0
 have HC0 := jA hc0
 clear hr0 hc0
 have HR1_1 := jA hr1_1
 have HC1_1 := jA hc1_1
 clear hr1_1 hc1_1
 have HB := jA (Below.refl w.heap.size w)
 have H := h
 unfold spec_IsLawful.f at H
 clear h
 replace H := jB.mp H
 obtain ⟨t165, A30, H⟩ := H
 try dsimp only at H
 have A3 := jA A30
 clear A30
 by_cases c4 : t165 = true
 ·subst c4
  rw [if_pos rfl] at H
  replace H := jB.mp H
  obtain ⟨t166, A50, H⟩ := H
  replace H : (some (t166, 0)) = some (r1, r2) := H
  have A5 := jA A50
  clear A50
  simp only [jN, jO] at H
  obtain ⟨rfl, rfl⟩ := H
  go_enter Try.func29, Try.ntmps29
  go_wp2_with (first | ((with_reducible refine jL (N := 3) rfl ?_); refine zE 3 #[.int .i64 a1_0, .slice A1_1 l1_1.length c1_1] 28 ?_; intro gb164 hg w6 hbox hb; have BK164 := jA (hbox); have GW164 := zg0 hg HB; have GE164 := zg0 hg HB; replace HB := zS0 HB hb; clear hb hbox hg; have hcz7 := zc2 BK164) | ((with_reducible refine jD (f := 25) rfl ?_); refine zL (some 8) Try.func25 #[.slice A0 l0.length c0, .agg #[.int .i64 a1_0, .slice A1_1 l1_1.length c1_1]] ?_; (with_reducible refine (spec_IsMagazine.calls k _ _ l0 a1_0 _ _ l1_1 true _ ?side1 ?side2 ?side3 ?side4 A3.out).mono ?_); (case side1 => exact zs HR0 HB); (case side2 => exact HC0.out); (case side3 => exact zs HR1_1 HB); (case side4 => exact HC1_1.out); rintro e w8 ⟨rfl, hb⟩; refine ⟨_, rfl, ?_⟩; replace BK164 := zB BK164 hb; replace HB := zS1 HB GE164 hb; clear hb; have hcz9 := zc2 BK164) | ((with_reducible refine jD (f := 65) rfl ?_); refine zL (some 12) Try.func65 #[.slice A0 l0.length c0, .agg #[.int .i64 a1_0, .slice A1_1 l1_1.length c1_1]] ?_; (with_reducible refine (spec_l26Lawful.calls k _ _ l0 a1_0 _ _ l1_1 t166 _ ?side1 ?side2 ?side3 ?side4 A5.out).mono ?_); (case side1 => exact zs HR0 HB); (case side2 => exact HC0.out); (case side3 => exact zs HR1_1 HB); (case side4 => exact HC1_1.out); rintro e w10 ⟨rfl, hb⟩; refine ⟨_, rfl, ?_⟩; replace BK164 := zB BK164 hb; replace HB := zS1 HB GE164 hb; clear hb))
  go_ret2
  exact ⟨ze, zb1 HB GE164⟩
 ·replace c4 := Bool.eq_false_iff.mpr c4
  subst c4
  rw [if_neg zfalse] at H
  simp only [jN, jO] at H
  obtain ⟨rfl, rfl⟩ := H
  go_enter Try.func29, Try.ntmps29
  go_wp2_with (first | ((with_reducible refine jL (N := 3) rfl ?_); refine zE 3 #[.int .i64 a1_0, .slice A1_1 l1_1.length c1_1] 28 ?_; intro gb164 hg w11 hbox hb; have BK164 := jA (hbox); have GW164 := zg0 hg HB; have GE164 := zg0 hg HB; replace HB := zS0 HB hb; clear hb hbox hg; have hcz12 := zc2 BK164) | ((with_reducible refine jD (f := 25) rfl ?_); refine zL (some 8) Try.func25 #[.slice A0 l0.length c0, .agg #[.int .i64 a1_0, .slice A1_1 l1_1.length c1_1]] ?_; (with_reducible refine (spec_IsMagazine.calls k _ _ l0 a1_0 _ _ l1_1 false _ ?side1 ?side2 ?side3 ?side4 A3.out).mono ?_); (case side1 => exact zs HR0 HB); (case side2 => exact HC0.out); (case side3 => exact zs HR1_1 HB); (case side4 => exact HC1_1.out); rintro e w13 ⟨rfl, hb⟩; refine ⟨_, rfl, ?_⟩; replace BK164 := zB BK164 hb; replace HB := zS1 HB GE164 hb; clear hb))
  go_ret2
  exact ⟨ze, zb1 HB GE164⟩

end Go.Proofs.Ytdgglhfnlljmeaa.PFnMagazines
