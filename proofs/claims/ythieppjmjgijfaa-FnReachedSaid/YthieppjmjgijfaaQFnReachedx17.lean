/- Functions and contracts that FnReached reaches (18 of 22). -/
import Derived.Test.YthieppjmjgijfaaQFnReachedx16
namespace Go.Proofs.Ythieppjmjgijfaa.PFnReached
open Go.RowKit Go.Proofs.YthieppjmjgijfaaW.PrintWords Go.Proofs.YthieppjmjgijfaaW.PrintLast Go.Proofs.YthieppjmjgijfaaW.PrintMore
attribute [local go_sem] max2_int min2_int max_two min_two max_three min_three max_four min_four   -- for this text's walks alone
set_option linter.unusedVariables false
set_option linter.unusedSimpArgs false

/-! ### impl_ShortestInputs: function 34 -/
def impl_ShortestInputs.j0 : Nat → List Int → Int → Bool → Bool → Bool → Bool → Bool → Bool → Int → Option (List Int × Int)
 | 0, _, _, _, _, _, _, _, _, _ => none
 | k + 1, x1, x2, x17, x568000, x568001, x568002, x568003, x568004, x568005 => if x17 = true then (some (([] : List Int), 1)) else ((impl_isNumber.f x2).bind fun t570 => (if t570 = true then ((impl_shortest.f k x568000 x568001 x568002 x568003 x568004 x568005 x1).bind fun bt571 => (if 0 ≤ x2 then (if x2 < (bt571.2.length : Int) then (if rdOf false bt571.2 x2 = true then (if x2 < (bt571.1.length : Int) then (some (rd_L3 bt571.1 x2, 0)) else (none)) else (some (([] : List Int), 4))) else (none)) else (none))) else (some (([] : List Int), 2))))
def impl_ShortestInputs.f (k : Nat) (a0_0 : Bool) (a0_1 : Bool) (a0_2 : Bool) (a0_3 : Bool) (a0_4 : Bool) (a0_5 : Int) (l1 : List Int) (a2 : Int) : Option (List Int × Int) := (impl_IsSound.f a0_0 a0_1 a0_2 a0_3 a0_4 a0_5).bind fun t568 => (if t568 = true then ((impl_isHand.f k l1).bind fun t569 => (impl_ShortestInputs.j0 k l1 a2 (!t569) a0_0 a0_1 a0_2 a0_3 a0_4 a0_5)) else (impl_ShortestInputs.j0 k l1 a2 true a0_0 a0_1 a0_2 a0_3 a0_4 a0_5))
theorem impl_ShortestInputs.mono_l : ∀ k, (∀ y0 y1 y2 y3 y4 y5 y6 y7 y8, LeO (impl_ShortestInputs.j0 k y0 y1 y2 y3 y4 y5 y6 y7 y8) (impl_ShortestInputs.j0 (k + 1) y0 y1 y2 y3 y4 y5 y6 y7 y8))
 | 0 => fun _ _ _ _ _ _ _ _ _ r h => by simp [impl_ShortestInputs.j0] at h
 | k + 1 => by
  have ih0 := impl_ShortestInputs.mono_l k
  ·intro y0 y1 y2 y3 y4 y5 y6 y7 y8
   unfold impl_ShortestInputs.j0
   repeat' first
   | (with_reducible exact ih0 _ _ _ _ _ _ _ _ _)
   | (with_reducible exact impl_isHand.mono _ _)
   | (with_reducible exact impl_shortest.mono _ _ _ _ _ _ _ _)
   | (with_reducible exact LeO.refl _)
   | (with_reducible exact LeO.none _)
   | (with_reducible refine LeO.ite ?_ ?_)
   | (with_reducible refine LeO.bind ?_ (fun _ => ?_))
   | exact ih0 _ _ _ _ _ _ _ _ _
   | exact impl_isHand.mono _ _
   | exact impl_shortest.mono _ _ _ _ _ _ _ _
   | exact LeO.none _
   | refine LeO.ite ?_ ?_
   | refine LeO.bind ?_ (fun _ => ?_)
theorem impl_ShortestInputs.mono : ∀ a0 a1 a2 a3 a4 a5 a6 a7 k, LeO (impl_ShortestInputs.f k a0 a1 a2 a3 a4 a5 a6 a7) (impl_ShortestInputs.f (k + 1) a0 a1 a2 a3 a4 a5 a6 a7) := by
 intro a0 a1 a2 a3 a4 a5 a6 a7 k
 have ih0 := impl_ShortestInputs.mono_l k
 unfold impl_ShortestInputs.f
 repeat' first
   | (with_reducible exact ih0 _ _ _ _ _ _ _ _ _)
   | (with_reducible exact impl_isHand.mono _ _)
   | (with_reducible exact impl_shortest.mono _ _ _ _ _ _ _ _)
   | (with_reducible exact LeO.refl _)
   | (with_reducible exact LeO.none _)
   | (with_reducible refine LeO.ite ?_ ?_)
   | (with_reducible refine LeO.bind ?_ (fun _ => ?_))
   | exact ih0 _ _ _ _ _ _ _ _ _
   | exact impl_isHand.mono _ _
   | exact impl_shortest.mono _ _ _ _ _ _ _ _
   | exact LeO.none _
   | refine LeO.ite ?_ ?_
   | refine LeO.bind ?_ (fun _ => ?_)
set_option maxHeartbeats 8000000 in
set_option maxRecDepth 100000 in
theorem impl_ShortestInputs.calls (k : Nat) (a0_0 : Bool) (a0_1 : Bool) (a0_2 : Bool) (a0_3 : Bool) (a0_4 : Bool) (a0_5 : Int) (A1 : Option Addr) (c1 : Nat) (l1 : List Int) (a2 : Int) (r1 : List Int) (r2 : Int) (w : World) (hr1 : Kd.C (Kd.int .i64) w A1 l1.length l1) (hc1 : l1.length ≤ c1) (h : impl_ShortestInputs.f k a0_0 a0_1 a0_2 a0_3 a0_4 a0_5 l1 a2 = some (r1, r2)) :
  Calls Try.prog 34 #[.agg #[.bool a0_0, .bool a0_1, .bool a0_2, .bool a0_3, .bool a0_4, .int .i64 a0_5], .slice A1 l1.length c1, .int .i64 a2] w fun e w' => ∃ v0_ : Value, e = .returned (.tuple #[v0_, .int .i64 r2]) ∧ Kd.R (Kd.int .i64) 2 w' w.heap.size (fun _ => True) v0_ r1 ∧ Below w.heap.size w w' := by
 have hu23 := Try.underlying23
 have HR1 := jA hr1
 have HC1 := jA hc1
 clear hr1 hc1
 have HB := jA (Below.refl w.heap.size w)
 have H := h
 unfold impl_ShortestInputs.f at H
 clear h
 have HC4 := jA H
 clear H
 go_enter Try.func34, Try.ntmps34
 go_upto_region 1 with (first | ((with_reducible refine jK (N := 3) rfl ?_); refine zE 3 #[.bool a0_0, .bool a0_1, .bool a0_2, .bool a0_3, .bool a0_4, .int .i64 a0_5] 23 ?_; intro gb567 hg w5 hbox hb; have BK567 := jA (hbox); have GW567 := zg0 hg HB; have GE567 := zg0 hg HB; replace HB := zS0 HB hb; clear hb hbox hg))
 (try simp only [Act.put, jC, jE, jF])
 go_cut [17] (fun v17 wc => ∃ (kq : Nat) (x17_3 : Bool), v17 = .bool x17_3 ∧ Aside0 (impl_ShortestInputs.j0 kq l1 a2 x17_3 a0_0 a0_1 a0_2 a0_3 a0_4 a0_5 = some (r1, r2)) ∧ Aside0 (kq ≤ k) ∧ Aside0 (wc.heap[gb567]? = some (.cells #[.bool a0_0, .bool a0_1, .bool a0_2, .bool a0_3, .bool a0_4, .int .i64 a0_5] 23 (0, 0))) ∧ Aside0 (Below w.heap.size w wc))
 case first =>
  have H := HC4.out
  clear HC4
  replace H := jD.mp H
  obtain ⟨t568, A60, H⟩ := H
  try dsimp only at H
  have A6 := jA A60
  clear A60
  by_cases c7 : t568 = true
  ·subst c7
   rw [if_pos rfl] at H
   replace H := jD.mp H
   obtain ⟨t569, A80, H⟩ := H
   try dsimp only at H
   have A8 := jA A80
   clear A80
   have H' := jA H
   clear H
   have hcz9 := zc6 BK567
   go_wp2_with (first | ((with_reducible refine jH (f := 27) rfl ?_); refine zL (some 11) Try.func27 #[.agg #[.bool a0_0, .bool a0_1, .bool a0_2, .bool a0_3, .bool a0_4, .int .i64 a0_5]] ?_; (with_reducible refine (impl_IsSound.calls a0_0 a0_1 a0_2 a0_3 a0_4 a0_5 true _ A6.out).mono ?_); rintro e w10 ⟨rfl, hb⟩; refine ⟨_, rfl, ?_⟩; replace BK567 := zB BK567 hb; replace HB := zS1 HB GE567 hb; clear hb) | (go_at_call 56; (with_reducible refine (impl_isHand.calls k _ _ l1 t569 _ ?side1 ?side2 A8.out).mono ?_); (case side1 => exact zs HR1 HB); (case side2 => exact HC1.out); rintro e w' ⟨rfl, ⟨nd, rfl⟩⟩))
   go_meet
   case rel => exact ⟨_, (!t569), zz, H', ⟨by first | omega | exact Nat.le_refl _⟩, ⟨zk BK567⟩, ⟨zb1 HB GE567⟩⟩
  ·replace c7 := Bool.eq_false_iff.mpr c7
   subst c7
   rw [if_neg zfalse] at H
   have H' := jA H
   clear H
   have hcz11 := zc6 BK567
   go_wp2_with (first | ((with_reducible refine jH (f := 27) rfl ?_); refine zL (some 11) Try.func27 #[.agg #[.bool a0_0, .bool a0_1, .bool a0_2, .bool a0_3, .bool a0_4, .int .i64 a0_5]] ?_; (with_reducible refine (impl_IsSound.calls a0_0 a0_1 a0_2 a0_3 a0_4 a0_5 false _ A6.out).mono ?_); rintro e w12 ⟨rfl, hb⟩; refine ⟨_, rfl, ?_⟩; replace BK567 := zB BK567 hb; replace HB := zS1 HB GE567 hb; clear hb))
   go_meet
   case rel => exact ⟨_, (true), zz, H', ⟨by first | omega | exact Nat.le_refl _⟩, ⟨zk BK567⟩, ⟨zb1 HB GE567⟩⟩
 case rest =>
  clear HC4
  try clear c1
  try clear c2
  try clear p2
  try clear c3
  try clear c7
  try clear hcz11
  try clear hcz9
  obtain ⟨kq, x17_3, rfl, HA, HJ3, BK567, HB⟩ := hcut
  cases kq with
  | zero => exact absurd HA.out (by simp [impl_ShortestInputs.j0])
  | succ kj3 =>
   have H := HA.out
   clear HA
   simp only [impl_ShortestInputs.j0] at H
   by_cases c13 : x17_3 = true
   ·subst c13
    rw [if_pos rfl] at H
    simp only [jI, jM] at H
    obtain ⟨rfl, rfl⟩ := H
    go_wp2
    go_ret2
    exact ⟨_, ze, by first | exact Kd.R_nil _ _ _ _ _ | exact Kd.N_nil _ _ _ _ _ | exact Kd.V_nil _ _ _ _ _ | exact Kd.Q_nil _ _ _ _ _ | exact Kd.S_nil _ _ _ _ _, zb1 HB GE567⟩
   ·replace c13 := Bool.eq_false_iff.mpr c13
    subst c13
    rw [if_neg zfalse] at H
    replace H := jD.mp H
    obtain ⟨t570, A140, H⟩ := H
    try dsimp only at H
    have A14 := jA A140
    clear A140
    by_cases c15 : t570 = true
    ·subst c15
     rw [if_pos rfl] at H
     replace H := jD.mp H
     obtain ⟨⟨t571, t574⟩, A160, H⟩ := H
     try dsimp only at H
     have A16 := jA A160
     clear A160
     by_cases c17 : 0 ≤ a2
     ·rw [if_pos c17] at H
      have c17b0 : decide (0 ≤ a2) = true := jJ c17
      clear c17
      by_cases c18 : a2 < (t574.length : Int)
      ·rw [if_pos c18] at H
       have c18b0 : decide (a2 < (t574.length : Int)) = true := jJ c18
       clear c18
       obtain ⟨bq19, hbq19⟩ : ∃ b_ : Bool, b_ = (rdOf false t574 a2) := ⟨_, rfl⟩
       replace H : (if bq19 = true then (if a2 < (t571.length : Int) then (some (rd_L3 t571 a2, 0)) else (none)) else (some (([] : List Int), 4))) = some (r1, r2) := by rw [← hbq19] at H; exact H
       have Nbq19 := jA hbq19
       clear hbq19
       by_cases c20 : bq19 = true
       ·subst c20
        rw [if_pos rfl] at H
        by_cases c21 : a2 < (t571.length : Int)
        ·rw [if_pos c21] at H
         have c21b0 : decide (a2 < (t571.length : Int)) = true := jJ c21
         clear c21
         simp only [jI, jM] at H
         obtain ⟨rfl, rfl⟩ := H
         go_wp2_with (first | ((with_reducible refine jH (f := 49) rfl ?_); refine zL (some 19) Try.func49 #[.int .i64 a2] ?_; (with_reducible refine (impl_isNumber.calls a2 true _ A14.out).mono ?_); rintro e w22 ⟨rfl, hb⟩; refine ⟨_, rfl, ?_⟩; replace BK567 := zB BK567 hb; replace HB := zS1 HB GE567 hb; clear hb; have hcz23 := zc6 BK567) | ((with_reducible refine jH (f := 69) rfl ?_); refine zL (some 24) Try.func69 #[.agg #[.bool a0_0, .bool a0_1, .bool a0_2, .bool a0_3, .bool a0_4, .int .i64 a0_5], .slice A1 l1.length c1] ?_; (with_reducible refine (impl_shortest.calls kj3 a0_0 a0_1 a0_2 a0_3 a0_4 a0_5 _ _ l1 t571 t574 _ ?side1 ?side2 A16.out).mono ?_); (case side1 => exact zs HR1 HB); (case side2 => exact HC1.out); rintro e w24 ⟨v572, v575, rfl, ho0, ho1, hb⟩; refine ⟨_, rfl, ?_⟩; have HO573 := jA (Kd.S_lower ho0 (jP (zb1 HB GE567))); have HO576 := jA (jZ ho1 (jP (zb1 HB GE567))); replace BK567 := zB BK567 hb; replace HB := zS1 HB GE567 hb; (try clear hb); (try clear hb2); (try clear hk); (try clear hi); (try clear ho0); (try clear ho1); obtain ⟨Ao25, co25, eo25⟩ := Kd.R_slice HO576.out; subst eo25; have p577 : 0 ≤ (a2 : Int) := jB za; have q577 : a2 < (t574.length : Int) := jB za; obtain ⟨ad577, e577, hx577_0⟩ := Kd.at_bool (jO HO576.out).2.2 a2 p577 q577; (try rw [← Nbq19.out] at hx577_0); cases e577; replace p577 := eq_true p577; replace q577 := eq_true q577; obtain ⟨Ao26, co26, eo26⟩ := Kd.S_slice HO573.out; subst eo26; have p578 : 0 ≤ (a2 : Int) := jB za; have q578 : a2 < (t571.length : Int) := jB za; obtain ⟨ad578, A578_0, c578_0, e578, hx578_0, hl578_0, hi578_0⟩ := at_L3 (Kd.S_reads' HO573.out).2.2 a2 p578 q578; cases e578; obtain ⟨ce578, hce578, hMe578, hcc578⟩ := Kd.S_get HO573.out [] a2 p578 (by first | exact q578 | exact jB za | (have e_ := (Kd.S_reads' HO573.out).1; omega)); obtain ⟨ve578_0, rfl, ge578_0⟩ := hMe578; have hv578_0 := hcc578 0 _ rfl; rw [Nat.add_zero, show ((Kd.slice 2 (Kd.int .i64))).sz = 1 from rfl, Nat.mul_one] at hv578_0; replace hv578_0 := jN (hv578_0.symm.trans hx578_0); rw [hv578_0] at ge578_0; have HL578_0 := jA (show Kd.R (Kd.int .i64) 2 _ _ _ _ (rd_L3 t571 a2) from ge578_0); clear hv578_0 ge578_0; clear hcc578 hce578; have HR578_0 := jA hi578_0; have HC578_0 := jA hl578_0; clear hi578_0 hl578_0; replace p578 := eq_true p578; replace q578 := eq_true q578))
         go_ret2
         exact ⟨_, ze, by (with_reducible repeat (first | apply jV | apply jU | apply jS)); exact Kd.R_mono HL578_0.out (fun _ hk => trivial), zb1 HB GE567⟩
        ·rw [if_neg c21] at H
         exact absurd H (by simp)
       ·replace c20 := Bool.eq_false_iff.mpr c20
        subst c20
        rw [if_neg zfalse] at H
        simp only [jI, jM] at H
        obtain ⟨rfl, rfl⟩ := H
        go_wp2_with (first | ((with_reducible refine jH (f := 49) rfl ?_); refine zL (some 19) Try.func49 #[.int .i64 a2] ?_; (with_reducible refine (impl_isNumber.calls a2 true _ A14.out).mono ?_); rintro e w27 ⟨rfl, hb⟩; refine ⟨_, rfl, ?_⟩; replace BK567 := zB BK567 hb; replace HB := zS1 HB GE567 hb; clear hb; have hcz28 := zc6 BK567) | ((with_reducible refine jH (f := 69) rfl ?_); refine zL (some 24) Try.func69 #[.agg #[.bool a0_0, .bool a0_1, .bool a0_2, .bool a0_3, .bool a0_4, .int .i64 a0_5], .slice A1 l1.length c1] ?_; (with_reducible refine (impl_shortest.calls kj3 a0_0 a0_1 a0_2 a0_3 a0_4 a0_5 _ _ l1 t571 t574 _ ?side1 ?side2 A16.out).mono ?_); (case side1 => exact zs HR1 HB); (case side2 => exact HC1.out); rintro e w29 ⟨v572, v575, rfl, ho0, ho1, hb⟩; refine ⟨_, rfl, ?_⟩; have HO573 := jA (Kd.S_lower ho0 (jP (zb1 HB GE567))); have HO576 := jA (jZ ho1 (jP (zb1 HB GE567))); replace BK567 := zB BK567 hb; replace HB := zS1 HB GE567 hb; (try clear hb); (try clear hb2); (try clear hk); (try clear hi); (try clear ho0); (try clear ho1); obtain ⟨Ao30, co30, eo30⟩ := Kd.R_slice HO576.out; subst eo30; have p577 : 0 ≤ (a2 : Int) := jB za; have q577 : a2 < (t574.length : Int) := jB za; obtain ⟨ad577, e577, hx577_0⟩ := Kd.at_bool (jO HO576.out).2.2 a2 p577 q577; (try rw [← Nbq19.out] at hx577_0); cases e577; replace p577 := eq_true p577; replace q577 := eq_true q577))
        go_ret2
        exact ⟨_, ze, by first | exact Kd.R_nil _ _ _ _ _ | exact Kd.N_nil _ _ _ _ _ | exact Kd.V_nil _ _ _ _ _ | exact Kd.Q_nil _ _ _ _ _ | exact Kd.S_nil _ _ _ _ _, zb1 HB GE567⟩
      ·rw [if_neg c18] at H
       exact absurd H (by simp)
     ·rw [if_neg c17] at H
      exact absurd H (by simp)
    ·replace c15 := Bool.eq_false_iff.mpr c15
     subst c15
     rw [if_neg zfalse] at H
     simp only [jI, jM] at H
     obtain ⟨rfl, rfl⟩ := H
     go_wp2_with (first | ((with_reducible refine jH (f := 49) rfl ?_); refine zL (some 19) Try.func49 #[.int .i64 a2] ?_; (with_reducible refine (impl_isNumber.calls a2 false _ A14.out).mono ?_); rintro e w31 ⟨rfl, hb⟩; refine ⟨_, rfl, ?_⟩; replace BK567 := zB BK567 hb; replace HB := zS1 HB GE567 hb; clear hb))
     go_ret2
     exact ⟨_, ze, by first | exact Kd.R_nil _ _ _ _ _ | exact Kd.N_nil _ _ _ _ _ | exact Kd.V_nil _ _ _ _ _ | exact Kd.Q_nil _ _ _ _ _ | exact Kd.S_nil _ _ _ _ _, zb1 HB GE567⟩

/-! ### spec_l25Is: function 47 -/
def spec_l25Is.f (a0 : Int) : Option (Bool) := (spec_l01In.f a0 0 159).bind fun t579 => (if t579 = true then ((spec_l25With.f a0).bind fun bt580 => ((spec_IsSound.f bt580.1 bt580.2.1 bt580.2.2.1 bt580.2.2.2.1 bt580.2.2.2.2.1 bt580.2.2.2.2.2).bind fun t586 => (some t586))) else (some false))
set_option maxHeartbeats 8000000 in
set_option maxRecDepth 100000 in
theorem spec_l25Is.calls (a0 : Int) (r : Bool) (w : World) (h : spec_l25Is.f a0 = some r) :
  Calls Try.prog 47 #[.int .i64 a0] w fun e w' => e = .returned (.bool r) ∧ Below w.heap.size w w' := by
 have HB := jA (Below.refl w.heap.size w)
 have H := h
 unfold spec_l25Is.f at H
 clear h
 replace H := jD.mp H
 obtain ⟨t579, A20, H⟩ := H
 try dsimp only at H
 have A2 := jA A20
 clear A20
 by_cases c3 : t579 = true
 ·subst c3
  rw [if_pos rfl] at H
  replace H := jD.mp H
  obtain ⟨⟨t580, t581, t582, t583, t584, t585⟩, A40, H⟩ := H
  try dsimp only at H
  have A4 := jA A40
  clear A40
  replace H := jD.mp H
  obtain ⟨t586, A50, H⟩ := H
  replace H : (some t586) = some r := H
  have A5 := jA A50
  clear A50
  obtain rfl := jN H
  go_enter Try.func47, Try.ntmps47
  go_wp2_with (first | ((with_reducible refine jH (f := 78) rfl ?_); refine zL (some 4) Try.func78 #[.int .i64 a0, .int .i64 0, .int .i64 159] ?_; (with_reducible refine (spec_l01In.calls a0 0 159 true _ A2.out).mono ?_); rintro e w' ⟨rfl, ⟨nd, rfl⟩⟩; refine ⟨_, rfl, ?_⟩) | (go_at_call 48; (with_reducible refine (spec_l25With.calls a0 t580 t581 t582 t583 t584 t585 _ A4.out).mono ?_); rintro e w6 ⟨rfl, hb⟩; replace HB := zS0 HB hb; (try clear hb); (try clear hb2); (try clear hk); (try clear hi)) | (go_at_call 51; (with_reducible refine (spec_IsSound.calls t580 t581 t582 t583 t584 t585 t586 _ A5.out).mono ?_); rintro e w7 ⟨rfl, hb⟩; replace HB := zS0 HB hb; (try clear hb); (try clear hb2); (try clear hk); (try clear hi)))
  go_ret
  exact ⟨ze, zb0 HB⟩
 ·replace c3 := Bool.eq_false_iff.mpr c3
  subst c3
  rw [if_neg zfalse] at H
  obtain rfl := jN H
  go_enter Try.func47, Try.ntmps47
  go_wp2_with (first | ((with_reducible refine jH (f := 78) rfl ?_); refine zL (some 4) Try.func78 #[.int .i64 a0, .int .i64 0, .int .i64 159] ?_; (with_reducible refine (spec_l01In.calls a0 0 159 false _ A2.out).mono ?_); rintro e w' ⟨rfl, ⟨nd, rfl⟩⟩; refine ⟨_, rfl, ?_⟩))
  go_ret
  exact ⟨ze, zb0 HB⟩

/-! ### spec_l01Own: function 73 -/
def spec_l01Own.f (l0 : List Int) : Option (List Int) := (some (([] : List Int) : List Int)).bind fun y587 => (if y587.length + l0.length < 17592186044416 then (some (y587 ++ l0)) else (none))
set_option maxHeartbeats 8000000 in
set_option maxRecDepth 100000 in
theorem spec_l01Own.calls (A0 : Option Addr) (c0 : Nat) (l0 : List Int) (r : List Int) (w : World) (hr0 : Kd.C (Kd.int .i64) w A0 l0.length l0) (hc0 : l0.length ≤ c0) (h : spec_l01Own.f l0 = some r) :
  Calls Try.prog 73 #[.slice A0 l0.length c0] w fun e w' => ∃ v0_ : Value, e = .returned (v0_) ∧ Kd.R (Kd.int .i64) 2 w' w.heap.size (fun _ => True) v0_ r ∧ Below w.heap.size w w' := by
 have HR0 := jA hr0
 have HC0 := jA hc0
 clear hr0 hc0
 have HB := jA (Below.refl w.heap.size w)
 have H := h
 unfold spec_l01Own.f at H
 clear h
 obtain ⟨y587, hy587⟩ : ∃ y_ : List Int, y_ = (([] : List Int)) := ⟨_, rfl⟩
 replace H : (if y587.length + l0.length < 17592186044416 then (some (y587 ++ l0)) else (none)) = some r := by first | (rw [hy587]; with_reducible exact H) | (have H2_ := (Option.bind_some _ _).symm.trans H; rw [hy587]; with_reducible exact H2_) | (have H2_ := (Option.bind_some _ _).symm.trans H; with_reducible exact H2_) | with_reducible exact H | (rw [hy587]; exact H) | exact H
 have Ny587 := jA hy587
 clear hy587
 by_cases c2 : y587.length + l0.length < 17592186044416
 ·rw [if_pos c2] at H
  have LMc2 := jA c2
  clear c2
  obtain ⟨y590, hy590⟩ : ∃ y_ : List Int, y_ = (y587 ++ l0) := ⟨_, rfl⟩
  replace H : (some y590) = some r := by first | (rw [hy590]; with_reducible exact H) | (have H2_ := (Option.bind_some _ _).symm.trans H; rw [hy590]; with_reducible exact H2_) | (have H2_ := (Option.bind_some _ _).symm.trans H; with_reducible exact H2_) | with_reducible exact H | (rw [hy590]; exact H) | exact H
  have Ny590 := jA hy590
  clear hy590
  obtain rfl := jN H
  go_enter Try.func73, Try.ntmps73
  go_wp2_with (first | ((with_reducible refine jK (N := 3) rfl ?_); refine Kd.R_lit (Kd.int .i64) _ 2 ?hg (N := 3) ?hd (xs := ([] : List Int)) (inner := []) (ok := fun _ => True) (okp := fun _ => True) ?hr ?hp (fun _ hk => hk) trivial (Below.refl _ _) (Nat.le_refl _) (by simp) ?_; (case hd => rfl); (case hg => rfl); (case hr => first | (go_simp; done) | (go_simp; rfl)); (case hp => exact (Reps.none _ _)); intro v588 w3 ho4 hb hg_ hnew_; clear hg_ hnew_; (first | rw [← Ny587.out] at ho4 | (simp only [Int.reduceToNat] at ho4; rw [← Ny587.out] at ho4)); have HO589 := jA (jZ ho4 (jP (zb0 HB))); replace HB := zS0 HB hb; clear hb ho4) | ((with_reducible refine gate_builtin (b := .append) (xs := #[.tmp 3, .tmp 4]) rfl ?_); at_builtin; refine Kd.R_append_rows (Kd.int .i64) (w0 := w) w.heap.size rfl (.tmp 3) (.tmp 4) 35 2 (.int .i64 0) 8 rfl Try.underlying35 info2 rfl (by decide) (by omega) v588 y587 l0 _ _ _ (fun _ => True) (fun _ => False) rfl rfl ?aO ?aR (fun _ _ h => h) (fun _ h => h.elim) ?aF ?aB ?aS ?aL ?_; (case aR => repeat (first | exact HR0.out | exact (Kd.C_below HR0.out HB.out) | (with_reducible refine Kd.C_alloc ?_ _) | (with_reducible refine Kd.C_drewN ?_ _) | (with_reducible refine Kd.C_drew ?_))); (case aB => exact (zb0 HB)); (case aF => exact (fun _ _ => trivial)); (case aO => exact (zo HO589)); (case aS => exact (jP (zb0 HB))); (case aL => have := LMc2.out; omega); intro v591 w5 ho hb hg hat; rw [← Ny590.out] at ho; replace HB := jA (hb); have HO592 := jA (ho); clear HO589; clear ho hb hg hat))
  go_ret
  exact ⟨_, ze, zo HO592, zb0 HB⟩
 ·rw [if_neg c2] at H
  exact absurd H (by simp)

end Go.Proofs.Ythieppjmjgijfaa.PFnReached
