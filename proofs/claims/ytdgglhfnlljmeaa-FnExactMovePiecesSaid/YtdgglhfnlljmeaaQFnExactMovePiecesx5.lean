/- Functions and contracts that FnExactMovePieces reaches (6 of 24). -/
import Derived.Test.YtdgglhfnlljmeaaQFnExactMovePiecesx4
namespace Go.Proofs.Ytdgglhfnlljmeaa.PFnExactMovePieces
open Go.RowKit Go.Proofs.YtdgglhfnlljmeaaW.PrintWords Go.Proofs.YtdgglhfnlljmeaaW.PrintLast Go.Proofs.YtdgglhfnlljmeaaW.PrintMore
attribute [local go_sem] max2_int min2_int max_two min_two max_three min_three max_four min_four   -- for this text's walks alone
set_option linter.unusedVariables false
set_option linter.unusedSimpArgs false
open Go.Proofs.YtdgglhfnlljmeaaX

/-! ### spec_l26Net: function 63 -/
def spec_l26Net.l0 : Nat → List (S65) → Int → Int → Int → List Int → Option (Int)
 | 0, _, _, _, _, _ => none
 | k + 1, x0, x5, x6, x157000, x157001 => if x6 < (x0.length : Int) then (if 0 ≤ x6 then (if x6 < (x157001.length : Int) then (spec_l26Net.l0 k x0 (wrap64 (x5 + (wrap64 (((rd_T65 x0 x6).f7) * (rd x157001 x6))))) (wrap64 (x6 + 1)) x157000 x157001) else (none)) else (none)) else (some x5)
def spec_l26Net.f (k : Nat) (l0 : List (S65)) (a1_0 : Int) (l1_1 : List Int) : Option (Int) := spec_l26Net.l0 k l0 0 0 a1_0 l1_1
theorem spec_l26Net.mono_l : ∀ k, (∀ y0 y1 y2 y3 y4, LeO (spec_l26Net.l0 k y0 y1 y2 y3 y4) (spec_l26Net.l0 (k + 1) y0 y1 y2 y3 y4))
 | 0 => fun _ _ _ _ _ r h => by simp [spec_l26Net.l0] at h
 | k + 1 => by
  have ih0 := spec_l26Net.mono_l k
  ·intro y0 y1 y2 y3 y4
   unfold spec_l26Net.l0
   repeat' first
   | (with_reducible exact ih0 _ _ _ _ _)
   | (with_reducible exact LeO.refl _)
   | (with_reducible exact LeO.none _)
   | (with_reducible refine LeO.ite ?_ ?_)
   | (with_reducible refine LeO.bind ?_ (fun _ => ?_))
   | exact ih0 _ _ _ _ _
   | exact LeO.none _
   | refine LeO.ite ?_ ?_
   | refine LeO.bind ?_ (fun _ => ?_)
theorem spec_l26Net.mono : ∀ a0 a1 a2 k, LeO (spec_l26Net.f k a0 a1 a2) (spec_l26Net.f (k + 1) a0 a1 a2) := by
 intro a0 a1 a2 k
 have ih0 := spec_l26Net.mono_l k
 unfold spec_l26Net.f
 repeat' first
   | (with_reducible exact ih0 _ _ _ _ _)
   | (with_reducible exact LeO.refl _)
   | (with_reducible exact LeO.none _)
   | (with_reducible refine LeO.ite ?_ ?_)
   | (with_reducible refine LeO.bind ?_ (fun _ => ?_))
   | exact ih0 _ _ _ _ _
   | exact LeO.none _
   | refine LeO.ite ?_ ?_
   | refine LeO.bind ?_ (fun _ => ?_)
set_option maxHeartbeats 8000000 in
set_option maxRecDepth 100000 in
theorem spec_l26Net.calls (k : Nat) (A0 : Option Addr) (c0 : Nat) (l0 : List (S65)) (a1_0 : Int) (A1_1 : Option Addr) (c1_1 : Nat) (l1_1 : List Int) (r : Int) (w : World) (hr0 : Kd.C k65 w A0 l0.length l0) (hc0 : l0.length ≤ c0) (hr1_1 : Kd.C (Kd.int .i64) w A1_1 l1_1.length l1_1) (hc1_1 : l1_1.length ≤ c1_1) (h : spec_l26Net.f k l0 a1_0 l1_1 = some r) :
  Calls Try.prog 63 #[.slice A0 l0.length c0, .agg #[.int .i64 a1_0, .slice A1_1 l1_1.length c1_1]] w fun e w' => e = .returned (.int .i64 r) ∧ Below w.heap.size w w' := by
 have hu28 := Try.underlying28
 have HR0 := jA hr0
 have HC0 := jA hc0
 clear hr0 hc0
 have HR1_1 := jA hr1_1
 have HC1_1 := jA hc1_1
 clear hr1_1 hc1_1
 have HB := jA (Below.refl w.heap.size w)
 have H : (spec_l26Net.l0 k l0 0 0 a1_0 l1_1) = some r := h
 clear h
 have H' := jA H
 clear H
 go_enter Try.func63, Try.ntmps63
 go_wp2_with (first | ((with_reducible refine jJ (N := 3) rfl ?_); refine zE 3 #[.int .i64 a1_0, .slice A1_1 l1_1.length c1_1] 28 ?_; intro gb156 hg w3 hbox hb; have BK156 := jA (hbox); have GW156 := zg0 hg HB; have GE156 := zg0 hg HB; replace HB := zS0 HB hb; clear hb hbox hg))
 repeat (go_quiet (first | ((with_reducible refine jJ (N := 3) rfl ?_); refine zE 3 #[.int .i64 a1_0, .slice A1_1 l1_1.length c1_1] 28 ?_; intro gb156 hg w3 hbox hb; have BK156 := jA (hbox); have GW156 := zg0 hg HB; have GE156 := zg0 hg HB; replace HB := zS0 HB hb; clear hb hbox hg)); try go_wp2_with (first | ((with_reducible refine jJ (N := 3) rfl ?_); refine zE 3 #[.int .i64 a1_0, .slice A1_1 l1_1.length c1_1] 28 ?_; intro gb156 hg w3 hbox hb; have BK156 := jA (hbox); have GW156 := zg0 hg HB; have GE156 := zg0 hg HB; replace HB := zS0 HB hb; clear hb hbox hg)))
 go_loopg [5, 6] k (fun kq v5 v6 w' => ∃ (x5_1 : Int) (x6_1 : Int), v5 = .int .i64 x5_1 ∧ v6 = .int .i64 x6_1 ∧ Aside0 (spec_l26Net.l0 kq l0 x5_1 x6_1 a1_0 l1_1 = some r) ∧ Aside0 (kq ≤ k) ∧ Aside0 (w'.heap[gb156]? = some (.cells #[.int .i64 a1_0, (.slice A1_1 l1_1.length c1_1)] 28 (0, 0))) ∧ Aside0 (Below w.heap.size w w'))
 case atStart => exact ⟨(0), (0), zz, zz, H', ⟨Nat.le_refl _⟩, ⟨zk BK156⟩, ⟨zb1 HB GE156⟩⟩
 case round =>
  clear H'
  try clear c1
  try clear p2
  obtain ⟨x5_1, x6_1, rfl, rfl, HA, HK1, BK156, HB⟩ := hrel
  cases gk with
  | zero => exact absurd HA.out (by simp [spec_l26Net.l0])
  | succ k1 =>
   have H := HA.out
   clear HA
   simp only [spec_l26Net.l0] at H
   by_cases c4 : x6_1 < (l0.length : Int)
   ·rw [if_pos c4] at H
    have c4b0 : decide (x6_1 < (l0.length : Int)) = true := jI c4
    clear c4
    by_cases c5 : 0 ≤ x6_1
    ·rw [if_pos c5] at H
     have c5b0 : decide (0 ≤ x6_1) = true := jI c5
     clear c5
     by_cases c6 : x6_1 < (l1_1.length : Int)
     ·rw [if_pos c6] at H
      have c6b0 : decide (x6_1 < (l1_1.length : Int)) = true := jI c6
      clear c6
      have H' := jA H
      clear H
      have p157 : 0 ≤ (x6_1 : Int) := jB za
      have q157 : x6_1 < (l0.length : Int) := jB za
      obtain ⟨ad157, e157, hx157_0, hx157_1, hx157_2, hx157_3, hx157_4, hx157_5, hx157_6, hx157_7, hx157_8⟩ := at_T65 HR0.out x6_1 p157 q157
      cases e157
      replace hx157_0 := zx HB hx157_0
      replace hx157_1 := zx HB hx157_1
      replace hx157_2 := zx HB hx157_2
      replace hx157_3 := zx HB hx157_3
      replace hx157_4 := zx HB hx157_4
      replace hx157_5 := zx HB hx157_5
      replace hx157_6 := zx HB hx157_6
      replace hx157_7 := zx HB hx157_7
      replace hx157_8 := zx HB hx157_8
      replace p157 := eq_true p157
      replace q157 := eq_true q157
      have hcz7 := zc2 BK156
      have p158 : 0 ≤ (x6_1 : Int) := jB za
      have q158 : x6_1 < (l1_1.length : Int) := jB za
      obtain ⟨ad158, e158, hx158_0⟩ := Kd.at_int HR1_1.out x6_1 p158 q158
      cases e158
      replace hx158_0 := zx HB hx158_0
      replace p158 := eq_true p158
      replace q158 := eq_true q158
      go_wp2
      repeat (go_quiet (fail); try go_wp2)
      go_roundg k1
      case measure => have := HK1.out; omega
      case rel => exact ⟨(wrap64 (x5_1 + (wrap64 (((rd_T65 l0 x6_1).f7) * (rd l1_1 x6_1))))), (wrap64 (x6_1 + 1)), zz, zz, H', ⟨by have := HK1.out; omega⟩, ⟨zk BK156⟩, ⟨zb1 HB GE156⟩⟩
     ·rw [if_neg c6] at H
      exact absurd H (by simp)
    ·rw [if_neg c5] at H
     exact absurd H (by simp)
   ·rw [if_neg c4] at H
    have c4b0 : decide (x6_1 < (l0.length : Int)) = false := jM c4
    clear c4
    obtain rfl := jH H
    go_wp2
    repeat (go_quiet (fail); try go_wp2)
    go_ret
    exact ⟨ze, zb1 HB GE156⟩

/-! ### spec_l26Mixed: function 67 -/
def spec_l26Mixed.l0 : Nat → List (S65) → Bool → Bool → Int → Int → List Int → Option (Bool)
 | 0, _, _, _, _, _, _ => none
 | k + 1, x0, x5, x6, x7, x160000, x160001 => if x7 < (x0.length : Int) then (if 0 ≤ x7 then (if x7 < (x160001.length : Int) then (if (rd x160001 x7) > 0 then (if x5 = true then (if x6 = true then (spec_l26Mixed.l0 k x0 true true (wrap64 (x7 + 1)) x160000 x160001) else (spec_l26Mixed.l0 k x0 true (((rd_T65 x0 x7).f8) != 3) (wrap64 (x7 + 1)) x160000 x160001)) else (if x6 = true then (spec_l26Mixed.l0 k x0 (((rd_T65 x0 x7).f8) == 3) true (wrap64 (x7 + 1)) x160000 x160001) else (spec_l26Mixed.l0 k x0 (((rd_T65 x0 x7).f8) == 3) (((rd_T65 x0 x7).f8) != 3) (wrap64 (x7 + 1)) x160000 x160001))) else (spec_l26Mixed.l0 k x0 x5 x6 (wrap64 (x7 + 1)) x160000 x160001)) else (none)) else (none)) else (if x5 = true then (some x6) else (some false))
def spec_l26Mixed.f (k : Nat) (l0 : List (S65)) (a1_0 : Int) (l1_1 : List Int) : Option (Bool) := spec_l26Mixed.l0 k l0 false false 0 a1_0 l1_1
theorem spec_l26Mixed.mono_l : ∀ k, (∀ y0 y1 y2 y3 y4 y5, LeO (spec_l26Mixed.l0 k y0 y1 y2 y3 y4 y5) (spec_l26Mixed.l0 (k + 1) y0 y1 y2 y3 y4 y5))
 | 0 => fun _ _ _ _ _ _ r h => by simp [spec_l26Mixed.l0] at h
 | k + 1 => by
  have ih0 := spec_l26Mixed.mono_l k
  ·intro y0 y1 y2 y3 y4 y5
   unfold spec_l26Mixed.l0
   repeat' first
   | (with_reducible exact ih0 _ _ _ _ _ _)
   | (with_reducible exact LeO.refl _)
   | (with_reducible exact LeO.none _)
   | (with_reducible refine LeO.ite ?_ ?_)
   | (with_reducible refine LeO.bind ?_ (fun _ => ?_))
   | exact ih0 _ _ _ _ _ _
   | exact LeO.none _
   | refine LeO.ite ?_ ?_
   | refine LeO.bind ?_ (fun _ => ?_)
theorem spec_l26Mixed.mono : ∀ a0 a1 a2 k, LeO (spec_l26Mixed.f k a0 a1 a2) (spec_l26Mixed.f (k + 1) a0 a1 a2) := by
 intro a0 a1 a2 k
 have ih0 := spec_l26Mixed.mono_l k
 unfold spec_l26Mixed.f
 repeat' first
   | (with_reducible exact ih0 _ _ _ _ _ _)
   | (with_reducible exact LeO.refl _)
   | (with_reducible exact LeO.none _)
   | (with_reducible refine LeO.ite ?_ ?_)
   | (with_reducible refine LeO.bind ?_ (fun _ => ?_))
   | exact ih0 _ _ _ _ _ _
   | exact LeO.none _
   | refine LeO.ite ?_ ?_
   | refine LeO.bind ?_ (fun _ => ?_)
set_option maxHeartbeats 8000000 in
set_option maxRecDepth 100000 in
theorem spec_l26Mixed.calls (k : Nat) (A0 : Option Addr) (c0 : Nat) (l0 : List (S65)) (a1_0 : Int) (A1_1 : Option Addr) (c1_1 : Nat) (l1_1 : List Int) (r : Bool) (w : World) (hr0 : Kd.C k65 w A0 l0.length l0) (hc0 : l0.length ≤ c0) (hr1_1 : Kd.C (Kd.int .i64) w A1_1 l1_1.length l1_1) (hc1_1 : l1_1.length ≤ c1_1) (h : spec_l26Mixed.f k l0 a1_0 l1_1 = some r) :
  Calls Try.prog 67 #[.slice A0 l0.length c0, .agg #[.int .i64 a1_0, .slice A1_1 l1_1.length c1_1]] w fun e w' => e = .returned (.bool r) ∧ Below w.heap.size w w' := by
 have hu28 := Try.underlying28
 have HR0 := jA hr0
 have HC0 := jA hc0
 clear hr0 hc0
 have HR1_1 := jA hr1_1
 have HC1_1 := jA hc1_1
 clear hr1_1 hc1_1
 have HB := jA (Below.refl w.heap.size w)
 have H : (spec_l26Mixed.l0 k l0 false false 0 a1_0 l1_1) = some r := h
 clear h
 have H' := jA H
 clear H
 go_enter Try.func67, Try.ntmps67
 go_wp2_with (first | ((with_reducible refine jJ (N := 3) rfl ?_); refine zE 3 #[.int .i64 a1_0, .slice A1_1 l1_1.length c1_1] 28 ?_; intro gb159 hg w3 hbox hb; have BK159 := jA (hbox); have GW159 := zg0 hg HB; have GE159 := zg0 hg HB; replace HB := zS0 HB hb; clear hb hbox hg))
 go_loopg [5, 6, 7] k (fun kq v5 v6 v7 w' => ∃ (x5_1 : Bool) (x6_1 : Bool) (x7_1 : Int), v5 = .bool x5_1 ∧ v6 = .bool x6_1 ∧ v7 = .int .i64 x7_1 ∧ Aside0 (spec_l26Mixed.l0 kq l0 x5_1 x6_1 x7_1 a1_0 l1_1 = some r) ∧ Aside0 (kq ≤ k) ∧ Aside0 (w'.heap[gb159]? = some (.cells #[.int .i64 a1_0, (.slice A1_1 l1_1.length c1_1)] 28 (0, 0))) ∧ Aside0 (Below w.heap.size w w'))
 case atStart => exact ⟨(false), (false), (0), zz, zz, zz, H', ⟨Nat.le_refl _⟩, ⟨zk BK159⟩, ⟨zb1 HB GE159⟩⟩
 case round =>
  clear H'
  try clear c1
  try clear p2
  obtain ⟨x5_1, x6_1, x7_1, rfl, rfl, rfl, HA, HK1, BK159, HB⟩ := hrel
  cases gk with
  | zero => exact absurd HA.out (by simp [spec_l26Mixed.l0])
  | succ k1 =>
   have H := HA.out
   clear HA
   simp only [spec_l26Mixed.l0] at H
   by_cases c4 : x7_1 < (l0.length : Int)
   ·rw [if_pos c4] at H
    have c4b0 : decide (x7_1 < (l0.length : Int)) = true := jI c4
    clear c4
    by_cases c5 : 0 ≤ x7_1
    ·rw [if_pos c5] at H
     have c5b0 : decide (0 ≤ x7_1) = true := jI c5
     clear c5
     by_cases c6 : x7_1 < (l1_1.length : Int)
     ·rw [if_pos c6] at H
      have c6b0 : decide (x7_1 < (l1_1.length : Int)) = true := jI c6
      clear c6
      by_cases c7 : (rd l1_1 x7_1) > 0
      ·rw [if_pos c7] at H
       have c7b0 : decide (0 < (rd l1_1 x7_1)) = true := jI c7
       clear c7
       by_cases c8 : x5_1 = true
       ·subst c8
        rw [if_pos rfl] at H
        by_cases c9 : x6_1 = true
        ·subst c9
         rw [if_pos rfl] at H
         have H' := jA H
         clear H
         have hcz10 := zc2 BK159
         have p160 : 0 ≤ (x7_1 : Int) := jB za
         have q160 : x7_1 < (l1_1.length : Int) := jB za
         obtain ⟨ad160, e160, hx160_0⟩ := Kd.at_int HR1_1.out x7_1 p160 q160
         cases e160
         replace hx160_0 := zx HB hx160_0
         replace p160 := eq_true p160
         replace q160 := eq_true q160
         go_wp2
         go_roundg k1
         case measure => have := HK1.out; omega
         case rel => exact ⟨(true), (true), (wrap64 (x7_1 + 1)), zz, zz, zz, H', ⟨by have := HK1.out; omega⟩, ⟨zk BK159⟩, ⟨zb1 HB GE159⟩⟩
        ·replace c9 := Bool.eq_false_iff.mpr c9
         subst c9
         rw [if_neg zfalse] at H
         have H' := jA H
         clear H
         have hcz11 := zc2 BK159
         have p160 : 0 ≤ (x7_1 : Int) := jB za
         have q160 : x7_1 < (l1_1.length : Int) := jB za
         obtain ⟨ad160, e160, hx160_0⟩ := Kd.at_int HR1_1.out x7_1 p160 q160
         cases e160
         replace hx160_0 := zx HB hx160_0
         replace p160 := eq_true p160
         replace q160 := eq_true q160
         have p161 : 0 ≤ (x7_1 : Int) := jB za
         have q161 : x7_1 < (l0.length : Int) := jB za
         obtain ⟨ad161, e161, hx161_0, hx161_1, hx161_2, hx161_3, hx161_4, hx161_5, hx161_6, hx161_7, hx161_8⟩ := at_T65 HR0.out x7_1 p161 q161
         cases e161
         replace hx161_0 := zx HB hx161_0
         replace hx161_1 := zx HB hx161_1
         replace hx161_2 := zx HB hx161_2
         replace hx161_3 := zx HB hx161_3
         replace hx161_4 := zx HB hx161_4
         replace hx161_5 := zx HB hx161_5
         replace hx161_6 := zx HB hx161_6
         replace hx161_7 := zx HB hx161_7
         replace hx161_8 := zx HB hx161_8
         replace p161 := eq_true p161
         replace q161 := eq_true q161
         go_wp2
         go_roundg k1
         case measure => have := HK1.out; omega
         case rel => exact ⟨(true), ((((rd_T65 l0 x7_1).f8) != 3)), (wrap64 (x7_1 + 1)), zz, zz, zz, H', ⟨by have := HK1.out; omega⟩, ⟨zk BK159⟩, ⟨zb1 HB GE159⟩⟩
       ·replace c8 := Bool.eq_false_iff.mpr c8
        subst c8
        rw [if_neg zfalse] at H
        by_cases c12 : x6_1 = true
        ·subst c12
         rw [if_pos rfl] at H
         have H' := jA H
         clear H
         have hcz13 := zc2 BK159
         have p160 : 0 ≤ (x7_1 : Int) := jB za
         have q160 : x7_1 < (l1_1.length : Int) := jB za
         obtain ⟨ad160, e160, hx160_0⟩ := Kd.at_int HR1_1.out x7_1 p160 q160
         cases e160
         replace hx160_0 := zx HB hx160_0
         replace p160 := eq_true p160
         replace q160 := eq_true q160
         have p162 : 0 ≤ (x7_1 : Int) := jB za
         have q162 : x7_1 < (l0.length : Int) := jB za
         obtain ⟨ad162, e162, hx162_0, hx162_1, hx162_2, hx162_3, hx162_4, hx162_5, hx162_6, hx162_7, hx162_8⟩ := at_T65 HR0.out x7_1 p162 q162
         cases e162
         replace hx162_0 := zx HB hx162_0
         replace hx162_1 := zx HB hx162_1
         replace hx162_2 := zx HB hx162_2
         replace hx162_3 := zx HB hx162_3
         replace hx162_4 := zx HB hx162_4
         replace hx162_5 := zx HB hx162_5
         replace hx162_6 := zx HB hx162_6
         replace hx162_7 := zx HB hx162_7
         replace hx162_8 := zx HB hx162_8
         replace p162 := eq_true p162
         replace q162 := eq_true q162
         go_wp2
         go_roundg k1
         case measure => have := HK1.out; omega
         case rel => exact ⟨((((rd_T65 l0 x7_1).f8) == 3)), (true), (wrap64 (x7_1 + 1)), zz, zz, zz, H', ⟨by have := HK1.out; omega⟩, ⟨zk BK159⟩, ⟨zb1 HB GE159⟩⟩
        ·replace c12 := Bool.eq_false_iff.mpr c12
         subst c12
         rw [if_neg zfalse] at H
         have H' := jA H
         clear H
         have hcz14 := zc2 BK159
         have p160 : 0 ≤ (x7_1 : Int) := jB za
         have q160 : x7_1 < (l1_1.length : Int) := jB za
         obtain ⟨ad160, e160, hx160_0⟩ := Kd.at_int HR1_1.out x7_1 p160 q160
         cases e160
         replace hx160_0 := zx HB hx160_0
         replace p160 := eq_true p160
         replace q160 := eq_true q160
         have p162 : 0 ≤ (x7_1 : Int) := jB za
         have q162 : x7_1 < (l0.length : Int) := jB za
         obtain ⟨ad162, e162, hx162_0, hx162_1, hx162_2, hx162_3, hx162_4, hx162_5, hx162_6, hx162_7, hx162_8⟩ := at_T65 HR0.out x7_1 p162 q162
         cases e162
         replace hx162_0 := zx HB hx162_0
         replace hx162_1 := zx HB hx162_1
         replace hx162_2 := zx HB hx162_2
         replace hx162_3 := zx HB hx162_3
         replace hx162_4 := zx HB hx162_4
         replace hx162_5 := zx HB hx162_5
         replace hx162_6 := zx HB hx162_6
         replace hx162_7 := zx HB hx162_7
         replace hx162_8 := zx HB hx162_8
         replace p162 := eq_true p162
         replace q162 := eq_true q162
         have p163 : 0 ≤ (x7_1 : Int) := jB za
         have q163 : x7_1 < (l0.length : Int) := jB za
         obtain ⟨ad163, e163, hx163_0, hx163_1, hx163_2, hx163_3, hx163_4, hx163_5, hx163_6, hx163_7, hx163_8⟩ := at_T65 HR0.out x7_1 p163 q163
         obtain rfl : ad162 = ad163 := (by injection e163)
         replace hx163_0 := zx HB hx163_0
         replace hx163_1 := zx HB hx163_1
         replace hx163_2 := zx HB hx163_2
         replace hx163_3 := zx HB hx163_3
         replace hx163_4 := zx HB hx163_4
         replace hx163_5 := zx HB hx163_5
         replace hx163_6 := zx HB hx163_6
         replace hx163_7 := zx HB hx163_7
         replace hx163_8 := zx HB hx163_8
         replace p163 := eq_true p163
         replace q163 := eq_true q163
         go_wp2
         go_roundg k1
         case measure => have := HK1.out; omega
         case rel => exact ⟨((((rd_T65 l0 x7_1).f8) == 3)), ((((rd_T65 l0 x7_1).f8) != 3)), (wrap64 (x7_1 + 1)), zz, zz, zz, H', ⟨by have := HK1.out; omega⟩, ⟨zk BK159⟩, ⟨zb1 HB GE159⟩⟩
      ·rw [if_neg c7] at H
       have c7b0 : decide (0 < (rd l1_1 x7_1)) = false := jM c7
       clear c7
       have H' := jA H
       clear H
       have hcz15 := zc2 BK159
       have p160 : 0 ≤ (x7_1 : Int) := jB za
       have q160 : x7_1 < (l1_1.length : Int) := jB za
       obtain ⟨ad160, e160, hx160_0⟩ := Kd.at_int HR1_1.out x7_1 p160 q160
       cases e160
       replace hx160_0 := zx HB hx160_0
       replace p160 := eq_true p160
       replace q160 := eq_true q160
       go_wp2
       go_roundg k1
       case measure => have := HK1.out; omega
       case rel => exact ⟨(x5_1), (x6_1), (wrap64 (x7_1 + 1)), zz, zz, zz, H', ⟨by have := HK1.out; omega⟩, ⟨zk BK159⟩, ⟨zb1 HB GE159⟩⟩
     ·rw [if_neg c6] at H
      exact absurd H (by simp)
    ·rw [if_neg c5] at H
     exact absurd H (by simp)
   ·rw [if_neg c4] at H
    have c4b0 : decide (x7_1 < (l0.length : Int)) = false := jM c4
    clear c4
    by_cases c16 : x5_1 = true
    ·subst c16
     rw [if_pos rfl] at H
     obtain rfl := jH H
     go_wp2
     go_ret
     exact ⟨ze, zb1 HB GE159⟩
    ·replace c16 := Bool.eq_false_iff.mpr c16
     subst c16
     rw [if_neg zfalse] at H
     obtain rfl := jH H
     go_wp2
     go_ret
     exact ⟨ze, zb1 HB GE159⟩

/-! ### spec_l26Lawful: function 65 -/
def spec_l26Lawful.f (k : Nat) (l0 : List (S65)) (a1_0 : Int) (l1_1 : List Int) : Option (Bool) := (spec_l26Net.f k l0 a1_0 l1_1).bind fun t165 => (if t165 ≤ a1_0 then ((spec_l26Mixed.f k l0 a1_0 l1_1).bind fun t166 => (some (!t166))) else (some false))
theorem spec_l26Lawful.mono : ∀ a0 a1 a2 k, LeO (spec_l26Lawful.f k a0 a1 a2) (spec_l26Lawful.f (k + 1) a0 a1 a2) := by
 intro a0 a1 a2 k
 unfold spec_l26Lawful.f
 repeat' first
   | (with_reducible exact spec_l26Mixed.mono _ _ _ _)
   | (with_reducible exact spec_l26Net.mono _ _ _ _)
   | (with_reducible exact LeO.refl _)
   | (with_reducible exact LeO.none _)
   | (with_reducible refine LeO.ite ?_ ?_)
   | (with_reducible refine LeO.bind ?_ (fun _ => ?_))
   | exact spec_l26Mixed.mono _ _ _ _
   | exact spec_l26Net.mono _ _ _ _
   | exact LeO.none _
   | refine LeO.ite ?_ ?_
   | refine LeO.bind ?_ (fun _ => ?_)
def spec_l26Lawful.T1 : Bool × List (List Nat × List Nat) := (true, [([], []), ([], []), ([0, 1], [0, 1]), ([], []), ([3], [3]), ([2, 4], [2, 4]), ([5, 2], [5]), ([6], [6]), ([6], [6]), ([7, 8, 6, 6], [6, 7, 8]), ([9, 6], [6, 9]), ([6, 10], [6, 10]), ([11, 9, 0, 1, 2, 3, 4, 5, 6, 7, 8, 9, 10, 11], [11])])
def spec_l26Lawful.B1 : List Nat := [0, 0, 3, 0, 8, 31, 63, 127, 127, 511, 1023, 2047, 4095]
theorem spec_l26Lawful.tab1 : rtab .any (opsOf Try.f65 1) = spec_l26Lawful.T1 := by kernel_rfl
theorem spec_l26Lawful.bits1 : waitsOk spec_l26Lawful.T1.2 spec_l26Lawful.B1 = true := by kernel_rfl
set_option maxHeartbeats 8000000 in
set_option maxRecDepth 100000 in
theorem spec_l26Lawful.calls (k : Nat) (A0 : Option Addr) (c0 : Nat) (l0 : List (S65)) (a1_0 : Int) (A1_1 : Option Addr) (c1_1 : Nat) (l1_1 : List Int) (r : Bool) (w : World) (hr0 : Kd.C k65 w A0 l0.length l0) (hc0 : l0.length ≤ c0) (hr1_1 : Kd.C (Kd.int .i64) w A1_1 l1_1.length l1_1) (hc1_1 : l1_1.length ≤ c1_1) (h : spec_l26Lawful.f k l0 a1_0 l1_1 = some r) :
  Calls Try.prog 65 #[.slice A0 l0.length c0, .agg #[.int .i64 a1_0, .slice A1_1 l1_1.length c1_1]] w fun e w' => e = .returned (.bool r) ∧ Below w.heap.size w w' := by
 have hu28 := Try.underlying28
 have HR0 := jA hr0
 have HC0 := jA hc0
 clear hr0 hc0
 have HR1_1 := jA hr1_1
 have HC1_1 := jA hc1_1
 clear hr1_1 hc1_1
 have HB := jA (Below.refl w.heap.size w)
 have H := h
 unfold spec_l26Lawful.f at H
 clear h
 replace H := jG.mp H
 obtain ⟨t165, A30, H⟩ := H
 try dsimp only at H
 have A3 := jA A30
 clear A30
 by_cases c4 : t165 ≤ a1_0
 ·rw [if_pos c4] at H
  have c4b0 : decide (t165 ≤ a1_0) = true := jI c4
  clear c4
  replace H := jG.mp H
  obtain ⟨t166, A50, H⟩ := H
  replace H : (some (!t166)) = some r := H
  have A5 := jA A50
  clear A50
  obtain rfl := jH H
  go_enter Try.func65, Try.ntmps65
  try go_wp2_with (first | ((with_reducible refine jJ (N := 3) rfl ?_); refine zE 3 #[.int .i64 a1_0, .slice A1_1 l1_1.length c1_1] 28 ?_; intro gb164 hg w6 hbox hb; have BK164 := jA (hbox); have GW164 := zg0 hg HB; have GE164 := zg0 hg HB; replace HB := zS0 HB hb; clear hb hbox hg))
  replace BK164 := jA (blk_drew BK164.out)
  replace HB := jA (jR HB.out)
  refine start_ (n := 13) (S := fun w' => w'.cell? ⟨gb164, 0, none⟩ = some (.int .i64 a1_0) ∧ w'.cell? ⟨gb164, 1, none⟩ = some (.slice A1_1 l1_1.length c1_1)) (ds := []) m13_0 zr rfl rfl ⟨(jD BK164.out 0).trans rfl, (jD BK164.out 1).trans rfl⟩ (fun hHeld => ?_); refine with_tabW spec_l26Lawful.tab1 spec_l26Lawful.bits1 (fun HT_ HW_ => ?_)
  generalize w6.drew = w7 at BK164 HB hHeld ⊢
  refine zp HT_ 0 5 m13_1000 ?_
  refine zp HT_ 3 8 m13_1200 ?_
  refine zt2 HT_ HW_ hHeld 1 6 m13_1a00 ?_
  refine zt2 HT_ HW_ hHeld 4 9 m13_1b00 ?_
  refine one_ (i := 2) (N := some 7) m13_1f00 rfl rfl (one_of HT_.out zr) (by decide) (fun K hK => ?_)
  refine goes_ Try.func63 zr rfl #[.slice A0 l0.length c0, .agg #[.int .i64 a1_0, .slice A1_1 l1_1.length c1_1]] (by rfl) rfl rfl zm ?_
  with_reducible refine (spec_l26Net.calls k _ _ l0 a1_0 _ _ l1_1 t165 _ ?side1 ?side2 ?side3 ?side4 A3.out).mono ?_
  (case side1 => exact zs HR0 HB)
  (case side2 => exact HC0.out)
  (case side3 => exact zs HR1_1 HB)
  (case side4 => exact HC1_1.out)
  rintro e w8 ⟨rfl, hb⟩
  refine ⟨_, rfl, ?_⟩
  replace BK164 := zB BK164 hb
  replace HB := zS1 HB GE164 hb
  (try clear hb)
  (try clear hb2)
  (try clear hk)
  (try clear hi)
  refine hK.out _ _ ⟨(jD BK164.out 0).trans rfl, (jD BK164.out 1).trans rfl⟩ (fun hHeld => ?_)
  clear hK K
  refine norm_ (a' := ?_) ?_ ?_
  rotate_left
  ·show Act.put _ (some 7) _ = _
   simp only [Act.put, jC, jE, jF, i64_w, i32_w]
   rfl
  refine zp HT_ 5 10 m13_1f80 ?_
  refine zp HT_ 6 11 m13_1fc0 ?_
  refine zp HT_ 7 12 m13_1fe0 ?_
  refine zt2 HT_ HW_ hHeld 8 13 m13_1ff0 ?_
  refine one_ (i := 9) (N := some 14) m13_1ff8 rfl rfl (one_of HT_.out zr) (by decide) (fun K hK => ?_)
  refine goes_ Try.func67 zr rfl #[.slice A0 l0.length c0, .agg #[.int .i64 a1_0, .slice A1_1 l1_1.length c1_1]] (by rfl) rfl rfl zm ?_
  with_reducible refine (spec_l26Mixed.calls k _ _ l0 a1_0 _ _ l1_1 t166 _ ?side1 ?side2 ?side3 ?side4 A5.out).mono ?_
  (case side1 => exact zs HR0 HB)
  (case side2 => exact HC0.out)
  (case side3 => exact zs HR1_1 HB)
  (case side4 => exact HC1_1.out)
  rintro e w9 ⟨rfl, hb⟩
  refine ⟨_, rfl, ?_⟩
  replace BK164 := zB BK164 hb
  replace HB := zS1 HB GE164 hb
  (try clear hb)
  (try clear hb2)
  (try clear hk)
  (try clear hi)
  refine hK.out _ _ ⟨(jD BK164.out 0).trans rfl, (jD BK164.out 1).trans rfl⟩ (fun hHeld => ?_)
  clear hK K
  refine norm_ (a' := ?_) ?_ ?_
  rotate_left
  ·show Act.put _ (some 14) _ = _
   simp only [Act.put, jC, jE, jF, i64_w, i32_w]
   rfl
  refine zp HT_ 10 15 m13_1ffc ?_
  refine zp HT_ 11 16 m13_1ffe ?_
  refine zp HT_ 12 4 m13_1fff ?_
  refine done_ (done_of HT_.out zr) ?_
  try go_wp2
  go_ret
  exact ⟨ze, zb1 HB GE164⟩
 ·rw [if_neg c4] at H
  have c4b0 : decide (t165 ≤ a1_0) = false := jM c4
  clear c4
  obtain rfl := jH H
  go_enter Try.func65, Try.ntmps65
  try go_wp2_with (first | ((with_reducible refine jJ (N := 3) rfl ?_); refine zE 3 #[.int .i64 a1_0, .slice A1_1 l1_1.length c1_1] 28 ?_; intro gb164 hg w10 hbox hb; have BK164 := jA (hbox); have GW164 := zg0 hg HB; have GE164 := zg0 hg HB; replace HB := zS0 HB hb; clear hb hbox hg))
  replace BK164 := jA (blk_drew BK164.out)
  replace HB := jA (jR HB.out)
  refine start_ (n := 13) (S := fun w' => w'.cell? ⟨gb164, 0, none⟩ = some (.int .i64 a1_0) ∧ w'.cell? ⟨gb164, 1, none⟩ = some (.slice A1_1 l1_1.length c1_1)) (ds := []) m13_0 zr rfl rfl ⟨(jD BK164.out 0).trans rfl, (jD BK164.out 1).trans rfl⟩ (fun hHeld => ?_); refine with_tabW spec_l26Lawful.tab1 spec_l26Lawful.bits1 (fun HT_ HW_ => ?_)
  generalize w10.drew = w11 at BK164 HB hHeld ⊢
  refine zp HT_ 0 5 m13_1000 ?_
  refine zp HT_ 3 8 m13_1200 ?_
  refine zt2 HT_ HW_ hHeld 1 6 m13_1a00 ?_
  refine zt2 HT_ HW_ hHeld 4 9 m13_1b00 ?_
  refine one_ (i := 2) (N := some 7) m13_1f00 rfl rfl (one_of HT_.out zr) (by decide) (fun K hK => ?_)
  refine goes_ Try.func63 zr rfl #[.slice A0 l0.length c0, .agg #[.int .i64 a1_0, .slice A1_1 l1_1.length c1_1]] (by rfl) rfl rfl zm ?_
  with_reducible refine (spec_l26Net.calls k _ _ l0 a1_0 _ _ l1_1 t165 _ ?side1 ?side2 ?side3 ?side4 A3.out).mono ?_
  (case side1 => exact zs HR0 HB)
  (case side2 => exact HC0.out)
  (case side3 => exact zs HR1_1 HB)
  (case side4 => exact HC1_1.out)
  rintro e w12 ⟨rfl, hb⟩
  refine ⟨_, rfl, ?_⟩
  replace BK164 := zB BK164 hb
  replace HB := zS1 HB GE164 hb
  (try clear hb)
  (try clear hb2)
  (try clear hk)
  (try clear hi)
  refine hK.out _ _ ⟨(jD BK164.out 0).trans rfl, (jD BK164.out 1).trans rfl⟩ (fun hHeld => ?_)
  clear hK K
  refine norm_ (a' := ?_) ?_ ?_
  rotate_left
  ·show Act.put _ (some 7) _ = _
   simp only [Act.put, jC, jE, jF, i64_w, i32_w]
   rfl
  refine zp HT_ 5 10 m13_1f80 ?_
  refine zp HT_ 6 11 m13_1fc0 ?_
  refine zq HT_ 7 12 m13_1fe0 ?_
  refine zq HT_ 8 13 m13_1ff0 ?_
  refine zq HT_ 9 14 m13_1ff8 ?_
  refine zq HT_ 10 15 m13_1ffc ?_
  refine zp HT_ 11 16 m13_1ffe ?_
  refine zp HT_ 12 4 m13_1fff ?_
  refine done_ (done_of HT_.out zr) ?_
  try go_wp2
  go_ret
  exact ⟨ze, zb1 HB GE164⟩

end Go.Proofs.Ytdgglhfnlljmeaa.PFnExactMovePieces
