/- Functions and contracts that FnReached reaches (21 of 22). -/
import Derived.Test.YthieppjmjgijfaaQFnReachedx19
namespace Go.Proofs.Ythieppjmjgijfaa.PFnReached
open Go.RowKit Go.Proofs.YthieppjmjgijfaaW.PrintWords Go.Proofs.YthieppjmjgijfaaW.PrintLast Go.Proofs.YthieppjmjgijfaaW.PrintMore
attribute [local go_sem] max2_int min2_int max_two min_two max_three min_three max_four min_four   -- for this text's walks alone
set_option linter.unusedVariables false
set_option linter.unusedSimpArgs false

/-! ### impl_DeadEnds: function 39 -/
mutual
def impl_DeadEnds.j0 : Nat → List Int → Bool → Bool → Bool → Bool → Bool → Bool → Int → Option (List Int × Int)
 | 0, _, _, _, _, _, _, _, _ => none
 | k + 1, x1, x16, x672000, x672001, x672002, x672003, x672004, x672005 => if x16 = true then (some (([] : List Int), 1)) else ((impl_reachedFrom.f k x672000 x672001 x672002 x672003 x672004 x672005 x1).bind fun t674 => (impl_DeadEnds.l0 k x1 ([] : List Int) t674 (t674.length : Int) 0))
def impl_DeadEnds.l0 : Nat → List Int → List Int → List Int → Int → Int → Option (List Int × Int)
 | 0, _, _, _, _, _ => none
 | k + 1, x1, x6, x19, x20, x21 => if x21 < x20 then (if 0 ≤ x21 then (if x21 < (x19.length : Int) then ((impl_controllerWith.f (rd x19 x21)).bind fun bt678 => ((impl_canFire.f k bt678.1 bt678.2.1 bt678.2.2.1 bt678.2.2.2.1 bt678.2.2.2.2.1 bt678.2.2.2.2.2 x1).bind fun t684 => (if t684 = true then (impl_DeadEnds.l0 k x1 x6 x19 x20 (wrap64 (x21 + 1))) else (if x6.length < 17592186044416 then (impl_DeadEnds.l0 k x1 (x6 ++ [rd x19 x21]) x19 x20 (wrap64 (x21 + 1))) else (none))))) else (none)) else (none)) else (some (x6, 0))
end
def impl_DeadEnds.f (k : Nat) (a0_0 : Bool) (a0_1 : Bool) (a0_2 : Bool) (a0_3 : Bool) (a0_4 : Bool) (a0_5 : Int) (l1 : List Int) : Option (List Int × Int) := (impl_IsSound.f a0_0 a0_1 a0_2 a0_3 a0_4 a0_5).bind fun t672 => (if t672 = true then ((impl_isHand.f k l1).bind fun t673 => (impl_DeadEnds.j0 k l1 (!t673) a0_0 a0_1 a0_2 a0_3 a0_4 a0_5)) else (impl_DeadEnds.j0 k l1 true a0_0 a0_1 a0_2 a0_3 a0_4 a0_5))
theorem impl_DeadEnds.mono_l : ∀ k, (∀ y0 y1 y2 y3 y4 y5 y6 y7, LeO (impl_DeadEnds.j0 k y0 y1 y2 y3 y4 y5 y6 y7) (impl_DeadEnds.j0 (k + 1) y0 y1 y2 y3 y4 y5 y6 y7)) ∧ (∀ y0 y1 y2 y3 y4, LeO (impl_DeadEnds.l0 k y0 y1 y2 y3 y4) (impl_DeadEnds.l0 (k + 1) y0 y1 y2 y3 y4))
 | 0 => ⟨fun _ _ _ _ _ _ _ _ r h => by simp [impl_DeadEnds.j0] at h, fun _ _ _ _ _ r h => by simp [impl_DeadEnds.l0] at h⟩
 | k + 1 => by
  obtain ⟨ih0, ih1⟩ := impl_DeadEnds.mono_l k
  refine ⟨?_, ?_⟩
  ·intro y0 y1 y2 y3 y4 y5 y6 y7
   unfold impl_DeadEnds.j0
   repeat' first
   | (with_reducible exact ih0 _ _ _ _ _ _ _ _)
   | (with_reducible exact ih1 _ _ _ _ _)
   | (with_reducible exact impl_canFire.mono _ _ _ _ _ _ _ _)
   | (with_reducible exact impl_isHand.mono _ _)
   | (with_reducible exact impl_reachedFrom.mono _ _ _ _ _ _ _ _)
   | (with_reducible exact LeO.refl _)
   | (with_reducible exact LeO.none _)
   | (with_reducible refine LeO.ite ?_ ?_)
   | (with_reducible refine LeO.bind ?_ (fun _ => ?_))
   | exact ih0 _ _ _ _ _ _ _ _
   | exact ih1 _ _ _ _ _
   | exact impl_canFire.mono _ _ _ _ _ _ _ _
   | exact impl_isHand.mono _ _
   | exact impl_reachedFrom.mono _ _ _ _ _ _ _ _
   | exact LeO.none _
   | refine LeO.ite ?_ ?_
   | refine LeO.bind ?_ (fun _ => ?_)
  ·intro y0 y1 y2 y3 y4
   unfold impl_DeadEnds.l0
   repeat' first
   | (with_reducible exact ih0 _ _ _ _ _ _ _ _)
   | (with_reducible exact ih1 _ _ _ _ _)
   | (with_reducible exact impl_canFire.mono _ _ _ _ _ _ _ _)
   | (with_reducible exact impl_isHand.mono _ _)
   | (with_reducible exact impl_reachedFrom.mono _ _ _ _ _ _ _ _)
   | (with_reducible exact LeO.refl _)
   | (with_reducible exact LeO.none _)
   | (with_reducible refine LeO.ite ?_ ?_)
   | (with_reducible refine LeO.bind ?_ (fun _ => ?_))
   | exact ih0 _ _ _ _ _ _ _ _
   | exact ih1 _ _ _ _ _
   | exact impl_canFire.mono _ _ _ _ _ _ _ _
   | exact impl_isHand.mono _ _
   | exact impl_reachedFrom.mono _ _ _ _ _ _ _ _
   | exact LeO.none _
   | refine LeO.ite ?_ ?_
   | refine LeO.bind ?_ (fun _ => ?_)
theorem impl_DeadEnds.mono : ∀ a0 a1 a2 a3 a4 a5 a6 k, LeO (impl_DeadEnds.f k a0 a1 a2 a3 a4 a5 a6) (impl_DeadEnds.f (k + 1) a0 a1 a2 a3 a4 a5 a6) := by
 intro a0 a1 a2 a3 a4 a5 a6 k
 obtain ⟨ih0, ih1⟩ := impl_DeadEnds.mono_l k
 unfold impl_DeadEnds.f
 repeat' first
   | (with_reducible exact ih0 _ _ _ _ _ _ _ _)
   | (with_reducible exact ih1 _ _ _ _ _)
   | (with_reducible exact impl_canFire.mono _ _ _ _ _ _ _ _)
   | (with_reducible exact impl_isHand.mono _ _)
   | (with_reducible exact impl_reachedFrom.mono _ _ _ _ _ _ _ _)
   | (with_reducible exact LeO.refl _)
   | (with_reducible exact LeO.none _)
   | (with_reducible refine LeO.ite ?_ ?_)
   | (with_reducible refine LeO.bind ?_ (fun _ => ?_))
   | exact ih0 _ _ _ _ _ _ _ _
   | exact ih1 _ _ _ _ _
   | exact impl_canFire.mono _ _ _ _ _ _ _ _
   | exact impl_isHand.mono _ _
   | exact impl_reachedFrom.mono _ _ _ _ _ _ _ _
   | exact LeO.none _
   | refine LeO.ite ?_ ?_
   | refine LeO.bind ?_ (fun _ => ?_)
set_option maxHeartbeats 8000000 in
set_option maxRecDepth 100000 in
theorem impl_DeadEnds.calls (k : Nat) (a0_0 : Bool) (a0_1 : Bool) (a0_2 : Bool) (a0_3 : Bool) (a0_4 : Bool) (a0_5 : Int) (A1 : Option Addr) (c1 : Nat) (l1 : List Int) (r1 : List Int) (r2 : Int) (w : World) (hr1 : Kd.C (Kd.int .i64) w A1 l1.length l1) (hc1 : l1.length ≤ c1) (h : impl_DeadEnds.f k a0_0 a0_1 a0_2 a0_3 a0_4 a0_5 l1 = some (r1, r2)) :
  Calls Try.prog 39 #[.agg #[.bool a0_0, .bool a0_1, .bool a0_2, .bool a0_3, .bool a0_4, .int .i64 a0_5], .slice A1 l1.length c1] w fun e w' => ∃ v0_ : Value, e = .returned (.tuple #[v0_, .int .i64 r2]) ∧ Kd.R (Kd.int .i64) 2 w' w.heap.size (fun _ => True) v0_ r1 ∧ Below w.heap.size w w' := by
 have hu23 := Try.underlying23
 have HR1 := jA hr1
 have HC1 := jA hc1
 clear hr1 hc1
 have HB := jA (Below.refl w.heap.size w)
 have H := h
 unfold impl_DeadEnds.f at H
 clear h
 have HC3 := jA H
 clear H
 go_enter Try.func39, Try.ntmps39
 go_upto_region 1 with (first | ((with_reducible refine jK (N := 2) rfl ?_); refine zE 2 #[.bool a0_0, .bool a0_1, .bool a0_2, .bool a0_3, .bool a0_4, .int .i64 a0_5] 23 ?_; intro gb671 hg w4 hbox hb; have BK671 := jA (hbox); have GW671 := zg0 hg HB; have GE671 := zg0 hg HB; replace HB := zS0 HB hb; clear hb hbox hg))
 (try simp only [Act.put, jC, jE, jF])
 go_cut [16] (fun v16 wc => ∃ (kq : Nat) (x16_2 : Bool), v16 = .bool x16_2 ∧ Aside0 (impl_DeadEnds.j0 kq l1 x16_2 a0_0 a0_1 a0_2 a0_3 a0_4 a0_5 = some (r1, r2)) ∧ Aside0 (kq ≤ k) ∧ Aside0 (wc.heap[gb671]? = some (.cells #[.bool a0_0, .bool a0_1, .bool a0_2, .bool a0_3, .bool a0_4, .int .i64 a0_5] 23 (0, 0))) ∧ Aside0 (Below w.heap.size w wc))
 case first =>
  have H := HC3.out
  clear HC3
  replace H := jD.mp H
  obtain ⟨t672, A50, H⟩ := H
  try dsimp only at H
  have A5 := jA A50
  clear A50
  by_cases c6 : t672 = true
  ·subst c6
   rw [if_pos rfl] at H
   replace H := jD.mp H
   obtain ⟨t673, A70, H⟩ := H
   try dsimp only at H
   have A7 := jA A70
   clear A70
   have H' := jA H
   clear H
   have hcz8 := zc6 BK671
   go_wp2_with (first | ((with_reducible refine jH (f := 27) rfl ?_); refine zL (some 10) Try.func27 #[.agg #[.bool a0_0, .bool a0_1, .bool a0_2, .bool a0_3, .bool a0_4, .int .i64 a0_5]] ?_; (with_reducible refine (impl_IsSound.calls a0_0 a0_1 a0_2 a0_3 a0_4 a0_5 true _ A5.out).mono ?_); rintro e w9 ⟨rfl, hb⟩; refine ⟨_, rfl, ?_⟩; replace BK671 := zB BK671 hb; replace HB := zS1 HB GE671 hb; clear hb) | (go_at_call 56; (with_reducible refine (impl_isHand.calls k _ _ l1 t673 _ ?side1 ?side2 A7.out).mono ?_); (case side1 => exact zs HR1 HB); (case side2 => exact HC1.out); rintro e w' ⟨rfl, ⟨nd, rfl⟩⟩))
   go_meet
   case rel => exact ⟨_, (!t673), zz, H', ⟨by first | omega | exact Nat.le_refl _⟩, ⟨zk BK671⟩, ⟨zb1 HB GE671⟩⟩
  ·replace c6 := Bool.eq_false_iff.mpr c6
   subst c6
   rw [if_neg zfalse] at H
   have H' := jA H
   clear H
   have hcz10 := zc6 BK671
   go_wp2_with (first | ((with_reducible refine jH (f := 27) rfl ?_); refine zL (some 10) Try.func27 #[.agg #[.bool a0_0, .bool a0_1, .bool a0_2, .bool a0_3, .bool a0_4, .int .i64 a0_5]] ?_; (with_reducible refine (impl_IsSound.calls a0_0 a0_1 a0_2 a0_3 a0_4 a0_5 false _ A5.out).mono ?_); rintro e w11 ⟨rfl, hb⟩; refine ⟨_, rfl, ?_⟩; replace BK671 := zB BK671 hb; replace HB := zS1 HB GE671 hb; clear hb))
   go_meet
   case rel => exact ⟨_, (true), zz, H', ⟨by first | omega | exact Nat.le_refl _⟩, ⟨zk BK671⟩, ⟨zb1 HB GE671⟩⟩
 case rest =>
  clear HC3
  try clear c1
  try clear c2
  try clear p2
  try clear c3
  try clear c6
  try clear hcz10
  try clear hcz8
  obtain ⟨kq, x16_2, rfl, HA, HJ2, BK671, HB⟩ := hcut
  cases kq with
  | zero => exact absurd HA.out (by simp [impl_DeadEnds.j0])
  | succ kj2 =>
   have H := HA.out
   clear HA
   simp only [impl_DeadEnds.j0] at H
   by_cases c12 : x16_2 = true
   ·subst c12
    rw [if_pos rfl] at H
    simp only [jI, jM] at H
    obtain ⟨rfl, rfl⟩ := H
    go_wp2
    go_ret2
    exact ⟨_, ze, by first | exact Kd.R_nil _ _ _ _ _ | exact Kd.N_nil _ _ _ _ _ | exact Kd.V_nil _ _ _ _ _ | exact Kd.Q_nil _ _ _ _ _ | exact Kd.S_nil _ _ _ _ _, zb1 HB GE671⟩
   ·replace c12 := Bool.eq_false_iff.mpr c12
    subst c12
    rw [if_neg zfalse] at H
    replace H := jD.mp H
    obtain ⟨t674, A130, H⟩ := H
    try dsimp only at H
    have A13 := jA A130
    clear A130
    have H' := jA H
    clear H
    have hcz14 := zc6 BK671
    go_wp2_with (first | ((with_reducible refine jH (f := 66) rfl ?_); refine zL (some 19) Try.func66 #[.agg #[.bool a0_0, .bool a0_1, .bool a0_2, .bool a0_3, .bool a0_4, .int .i64 a0_5], .slice A1 l1.length c1] ?_; (with_reducible refine (impl_reachedFrom.calls kj2 a0_0 a0_1 a0_2 a0_3 a0_4 a0_5 _ _ l1 t674 _ ?side1 ?side2 A13.out).mono ?_); (case side1 => exact zs HR1 HB); (case side2 => exact HC1.out); rintro e w15 ⟨v675, rfl, ho0, hb⟩; refine ⟨_, rfl, ?_⟩; have HO676 := jA (jZ ho0 (jP (zb1 HB GE671))); replace BK671 := zB BK671 hb; replace HB := zS1 HB GE671 hb; (try clear hb); (try clear hb2); (try clear hk); (try clear hi); (try clear ho0); obtain ⟨Ao16, co16, eo16⟩ := Kd.R_slice HO676.out; subst eo16))
    go_loopg [6, 21] kj2 (fun kq v6 v21 w' => ∃ (x6_2 : List Int) (x21_2 : Int), v21 = .int .i64 x21_2 ∧ Aside0 (impl_DeadEnds.l0 kq l1 x6_2 t674 (t674.length : Int) x21_2 = some (r1, r2)) ∧ Aside0 (kq ≤ kj2) ∧ Aside0 (Kd.R (Kd.int .i64) 2 w' w.heap.size (fun k_ => some k_ ≠ ((.slice Ao16 t674.length co16) : Value).ownBlock) v6 x6_2) ∧ Aside0 (Kd.R (Kd.int .i64) 2 w' w.heap.size (fun k_ => some k_ ≠ (v6 : Value).ownBlock) (.slice Ao16 t674.length co16) t674) ∧ Aside0 (w'.heap[gb671]? = some (.cells #[.bool a0_0, .bool a0_1, .bool a0_2, .bool a0_3, .bool a0_4, .int .i64 a0_5] 23 (0, 0))) ∧ Aside0 (Below w.heap.size w w'))
    case atStart => exact ⟨(([] : List Int)), (0), zz, H', ⟨Nat.le_refl _⟩, ⟨by first | exact Kd.R_nil _ _ _ _ _ | exact Kd.N_nil _ _ _ _ _ | exact Kd.V_nil _ _ _ _ _ | exact Kd.Q_nil _ _ _ _ _ | exact Kd.S_nil _ _ _ _ _⟩, ⟨by (with_reducible repeat (first | apply jV | apply jU | apply jS)); exact Kd.R_mono HO676.out (fun _ hk => (by simp [Value.ownBlock]))⟩, ⟨zk BK671⟩, ⟨zb1 HB GE671⟩⟩
    case round =>
     clear H'
     try clear c1
     try clear c2
     try clear p2
     try clear c3
     try clear c6
     try clear c12
     try clear hcz10
     try clear hcz14
     try clear hcz8
     try clear p2
     obtain ⟨x6_2, x21_2, rfl, HA, HK2, HO_6, HO_19, BK671, HB⟩ := hrel
     cases gk with
     | zero => exact absurd HA.out (by simp [impl_DeadEnds.l0])
     | succ k2 =>
      have H := HA.out
      clear HA
      simp only [impl_DeadEnds.l0] at H
      by_cases c17 : x21_2 < (t674.length : Int)
      ·rw [if_pos c17] at H
       have c17b0 : decide (x21_2 < (t674.length : Int)) = true := jJ c17
       clear c17
       by_cases c18 : 0 ≤ x21_2
       ·rw [if_pos c18] at H
        have c18b0 : decide (0 ≤ x21_2) = true := jJ c18
        clear c18
        by_cases c19 : x21_2 < (t674.length : Int)
        ·rw [if_pos c19] at H
         have c19b0 : decide (x21_2 < (t674.length : Int)) = true := jJ c19
         clear c19
         replace H := jD.mp H
         obtain ⟨⟨t678, t679, t680, t681, t682, t683⟩, A200, H⟩ := H
         replace H : ((impl_canFire.f k2 t678 t679 t680 t681 t682 t683 l1).bind fun t684 => (if t684 = true then (impl_DeadEnds.l0 k2 l1 x6_2 t674 (t674.length : Int) (wrap64 (x21_2 + 1))) else (if x6_2.length < 17592186044416 then (impl_DeadEnds.l0 k2 l1 (x6_2 ++ [rd t674 x21_2]) t674 (t674.length : Int) (wrap64 (x21_2 + 1))) else (none)))) = some (r1, r2) := H
         have A20 := jA A200
         clear A200
         replace H := jD.mp H
         obtain ⟨t684, A210, H⟩ := H
         replace H : (if t684 = true then (impl_DeadEnds.l0 k2 l1 x6_2 t674 (t674.length : Int) (wrap64 (x21_2 + 1))) else (if x6_2.length < 17592186044416 then (impl_DeadEnds.l0 k2 l1 (x6_2 ++ [rd t674 x21_2]) t674 (t674.length : Int) (wrap64 (x21_2 + 1))) else (none))) = some (r1, r2) := H
         have A21 := jA A210
         clear A210
         by_cases c22 : t684 = true
         ·subst c22
          rw [if_pos rfl] at H
          have H' := jA H
          clear H
          have p677 : 0 ≤ (x21_2 : Int) := jB za
          have q677 : x21_2 < (t674.length : Int) := jB za
          obtain ⟨ad677, e677, hx677_0⟩ := jR (jO HO_19.out).2.2 x21_2 p677 q677
          cases e677
          replace p677 := eq_true p677
          replace q677 := eq_true q677
          go_wp2_with (first | ((with_reducible refine jH (f := 50) rfl ?_); refine zL (some 26) Try.func50 #[.int .i64 (rd t674 x21_2)] ?_; (with_reducible refine (impl_controllerWith.calls (rd t674 x21_2) t678 t679 t680 t681 t682 t683 _ A20.out).mono ?_); rintro e w23 ⟨rfl, hb⟩; refine ⟨_, rfl, ?_⟩; replace HO_6 := jA (jQ (zo HO_6) hb); replace HO_19 := jA (jQ (zo HO_19) hb); replace BK671 := zB BK671 hb; replace HB := zS1 HB GE671 hb; clear hb) | ((with_reducible refine jH (f := 75) rfl ?_); refine zL (some 28) Try.func75 #[.agg #[.bool t678, .bool t679, .bool t680, .bool t681, .bool t682, .int .i64 t683], .slice A1 l1.length c1] ?_; (with_reducible refine (impl_canFire.calls k2 t678 t679 t680 t681 t682 t683 _ _ l1 true _ ?side1 ?side2 A21.out).mono ?_); (case side1 => exact zs HR1 HB); (case side2 => exact HC1.out); rintro e w24 ⟨rfl, hb⟩; refine ⟨_, rfl, ?_⟩; replace HO_6 := jA (jQ (zo HO_6) hb); replace HO_19 := jA (jQ (zo HO_19) hb); replace BK671 := zB BK671 hb; replace HB := zS1 HB GE671 hb; clear hb))
          go_roundg k2
          case measure => have := HJ2.out; have := HK2.out; omega
          case rel => exact ⟨(x6_2), (wrap64 (x21_2 + 1)), zz, H', ⟨by have := HJ2.out; have := HK2.out; omega⟩, ⟨zo HO_6⟩, ⟨zo HO_19⟩, ⟨zk BK671⟩, ⟨zb1 HB GE671⟩⟩
         ·replace c22 := Bool.eq_false_iff.mpr c22
          subst c22
          rw [if_neg zfalse] at H
          by_cases c25 : x6_2.length < 17592186044416
          ·rw [if_pos c25] at H
           have LMc25 := jA c25
           clear c25
           obtain ⟨y685, hy685⟩ : ∃ y_ : List Int, y_ = (x6_2 ++ [rd t674 x21_2]) := ⟨_, rfl⟩
           replace H : (impl_DeadEnds.l0 k2 l1 y685 t674 (t674.length : Int) (wrap64 (x21_2 + 1))) = some (r1, r2) := by first | (rw [hy685]; with_reducible exact H) | (have H2_ := (Option.bind_some _ _).symm.trans H; rw [hy685]; with_reducible exact H2_) | (have H2_ := (Option.bind_some _ _).symm.trans H; with_reducible exact H2_) | with_reducible exact H | (rw [hy685]; exact H) | exact H
           have Ny685 := jA hy685
           clear hy685
           have H' := jA H
           clear H
           have p677 : 0 ≤ (x21_2 : Int) := jB za
           have q677 : x21_2 < (t674.length : Int) := jB za
           obtain ⟨ad677, e677, hx677_0⟩ := jR (jO HO_19.out).2.2 x21_2 p677 q677
           cases e677
           replace p677 := eq_true p677
           replace q677 := eq_true q677
           go_wp2_with (first | ((with_reducible refine jH (f := 50) rfl ?_); refine zL (some 26) Try.func50 #[.int .i64 (rd t674 x21_2)] ?_; (with_reducible refine (impl_controllerWith.calls (rd t674 x21_2) t678 t679 t680 t681 t682 t683 _ A20.out).mono ?_); rintro e w26 ⟨rfl, hb⟩; refine ⟨_, rfl, ?_⟩; replace HO_6 := jA (jQ (zo HO_6) hb); replace HO_19 := jA (jQ (zo HO_19) hb); replace BK671 := zB BK671 hb; replace HB := zS1 HB GE671 hb; clear hb) | ((with_reducible refine jH (f := 75) rfl ?_); refine zL (some 28) Try.func75 #[.agg #[.bool t678, .bool t679, .bool t680, .bool t681, .bool t682, .int .i64 t683], .slice A1 l1.length c1] ?_; (with_reducible refine (impl_canFire.calls k2 t678 t679 t680 t681 t682 t683 _ _ l1 false _ ?side1 ?side2 A21.out).mono ?_); (case side1 => exact zs HR1 HB); (case side2 => exact HC1.out); rintro e w27 ⟨rfl, hb⟩; refine ⟨_, rfl, ?_⟩; replace HO_6 := jA (jQ (zo HO_6) hb); replace HO_19 := jA (jQ (zo HO_19) hb); replace BK671 := zB BK671 hb; replace HB := zS1 HB GE671 hb; clear hb) | ((with_reducible refine gate_builtin (b := .append) (xs := #[.tmp 30, .tmp 32]) rfl ?_); at_builtin; refine Kd.R_append (Kd.int .i64) (w0 := w) w.heap.size rfl (.tmp 30) (.tmp 32) 35 2 (.int .i64 0) 8 rfl Try.underlying35 info2 rfl (by decide) (by omega) u6 x6_2 (rd t674 x21_2) [.int .i64 (rd t674 x21_2)] (fun k_ => some k_ ≠ (.slice (some ad677) t674.length co16 : Value).ownBlock) (fun _ => False) rfl rfl ?aP (fun _ hk => hk.elim) ?aF ?aO ?aB ?aS ?aL ?_; (case aP => exact rfl); (case aB => exact (zb1 HB GE671)); (case aF => exact (fun k_ hk => Kd.fresh' (Kd.R_lt (zo HO_19)) k_ hk)); (case aO => exact (zo HO_6)); (case aS => exact (jP (zb1 HB GE671))); (case aL => have := LMc25.out; omega); intro v686 w28 ho hb hg hat; rw [← Ny685.out] at ho; replace HO_19 := jA (Kd.R_after (ok := (fun _ => True)) (by (with_reducible repeat (first | apply jV | apply jU | apply jS)); exact Kd.R_mono HO_19.out (fun _ hk => ⟨trivial, hk⟩)) hg hat); replace BK671 := jA (blk_grown (g := gb671) (o := .cells #[.bool a0_0, .bool a0_1, .bool a0_2, .bool a0_3, .bool a0_4, .int .i64 a0_5] 23 (0, 0)) (zk BK671) hg (Kd.R_ne HO_6.out BK671.out (by decide))); replace HB := jA (hb); have HO687 := jA (ho); clear HO_6; clear ho hb hg hat))
           go_roundg k2
           case measure => have := HJ2.out; have := HK2.out; omega
           case rel => exact ⟨(y685), (wrap64 (x21_2 + 1)), zz, H', ⟨by have := HJ2.out; have := HK2.out; omega⟩, ⟨zo HO687⟩, ⟨by (with_reducible repeat (first | apply jV | apply jU | apply jS)); exact Kd.R_mono HO_19.out (fun _ hk => hk.2)⟩, ⟨zk BK671⟩, ⟨zb1 HB GE671⟩⟩
          ·rw [if_neg c25] at H
           exact absurd H (by simp)
        ·rw [if_neg c19] at H
         exact absurd H (by simp)
       ·rw [if_neg c18] at H
        exact absurd H (by simp)
      ·rw [if_neg c17] at H
       have c17b0 : decide (x21_2 < (t674.length : Int)) = false := jW c17
       clear c17
       simp only [jI, jM] at H
       obtain ⟨rfl, rfl⟩ := H
       go_wp2
       go_ret2
       exact ⟨_, ze, by (with_reducible repeat (first | apply jV | apply jU | apply jS)); exact Kd.R_mono HO_6.out (fun _ hk => trivial), zb1 HB GE671⟩

/-! ### spec_DeadEnds: function 40 -/
def spec_DeadEnds.l0 : Nat → List Int → List Int → List Int → Int → Option (List Int × Int)
 | 0, _, _, _, _ => none
 | k + 1, x1, x7, x8, x9 => if x9 < (x8.length : Int) then (if 0 ≤ x9 then ((spec_l25Fires.f k (rd x8 x9) x1).bind fun t698 => (if t698 = true then (spec_DeadEnds.l0 k x1 x7 x8 (wrap64 (x9 + 1))) else (if x7.length < 17592186044416 then (spec_DeadEnds.l0 k x1 (x7 ++ [rd x8 x9]) x8 (wrap64 (x9 + 1))) else (none)))) else (none)) else (some (x7, 0))
def spec_DeadEnds.f (k : Nat) (a0_0 : Bool) (a0_1 : Bool) (a0_2 : Bool) (a0_3 : Bool) (a0_4 : Bool) (a0_5 : Int) (l1 : List Int) : Option (List Int × Int) := (spec_l25Code.f k a0_0 a0_1 a0_2 a0_3 a0_4 a0_5 l1).bind fun t689 => (if t689 = 0 then ((spec_l25Number.f k a0_0 a0_1 a0_2 a0_3 a0_4 a0_5).bind fun t693 => ((spec_l25Reached.f k t693 l1).bind fun t694 => (spec_DeadEnds.l0 k l1 (([] : List Int)) t694 0))) else (some (([] : List Int), t689)))
theorem spec_DeadEnds.mono_l : ∀ k, (∀ y0 y1 y2 y3, LeO (spec_DeadEnds.l0 k y0 y1 y2 y3) (spec_DeadEnds.l0 (k + 1) y0 y1 y2 y3))
 | 0 => fun _ _ _ _ r h => by simp [spec_DeadEnds.l0] at h
 | k + 1 => by
  have ih0 := spec_DeadEnds.mono_l k
  ·intro y0 y1 y2 y3
   unfold spec_DeadEnds.l0
   repeat' first
   | (with_reducible exact ih0 _ _ _ _)
   | (with_reducible exact spec_l25Code.mono _ _ _ _ _ _ _ _)
   | (with_reducible exact spec_l25Fires.mono _ _ _)
   | (with_reducible exact spec_l25Number.mono _ _ _ _ _ _ _)
   | (with_reducible exact spec_l25Reached.mono _ _ _)
   | (with_reducible exact LeO.refl _)
   | (with_reducible exact LeO.none _)
   | (with_reducible refine LeO.ite ?_ ?_)
   | (with_reducible refine LeO.bind ?_ (fun _ => ?_))
   | exact ih0 _ _ _ _
   | exact spec_l25Code.mono _ _ _ _ _ _ _ _
   | exact spec_l25Fires.mono _ _ _
   | exact spec_l25Number.mono _ _ _ _ _ _ _
   | exact spec_l25Reached.mono _ _ _
   | exact LeO.none _
   | refine LeO.ite ?_ ?_
   | refine LeO.bind ?_ (fun _ => ?_)
theorem spec_DeadEnds.mono : ∀ a0 a1 a2 a3 a4 a5 a6 k, LeO (spec_DeadEnds.f k a0 a1 a2 a3 a4 a5 a6) (spec_DeadEnds.f (k + 1) a0 a1 a2 a3 a4 a5 a6) := by
 intro a0 a1 a2 a3 a4 a5 a6 k
 have ih0 := spec_DeadEnds.mono_l k
 unfold spec_DeadEnds.f
 repeat' first
   | (with_reducible exact ih0 _ _ _ _)
   | (with_reducible exact spec_l25Code.mono _ _ _ _ _ _ _ _)
   | (with_reducible exact spec_l25Fires.mono _ _ _)
   | (with_reducible exact spec_l25Number.mono _ _ _ _ _ _ _)
   | (with_reducible exact spec_l25Reached.mono _ _ _)
   | (with_reducible exact LeO.refl _)
   | (with_reducible exact LeO.none _)
   | (with_reducible refine LeO.ite ?_ ?_)
   | (with_reducible refine LeO.bind ?_ (fun _ => ?_))
   | exact ih0 _ _ _ _
   | exact spec_l25Code.mono _ _ _ _ _ _ _ _
   | exact spec_l25Fires.mono _ _ _
   | exact spec_l25Number.mono _ _ _ _ _ _ _
   | exact spec_l25Reached.mono _ _ _
   | exact LeO.none _
   | refine LeO.ite ?_ ?_
   | refine LeO.bind ?_ (fun _ => ?_)
set_option maxHeartbeats 8000000 in
set_option maxRecDepth 100000 in
theorem spec_DeadEnds.calls (k : Nat) (a0_0 : Bool) (a0_1 : Bool) (a0_2 : Bool) (a0_3 : Bool) (a0_4 : Bool) (a0_5 : Int) (A1 : Option Addr) (c1 : Nat) (l1 : List Int) (r1 : List Int) (r2 : Int) (w : World) (hr1 : Kd.C (Kd.int .i64) w A1 l1.length l1) (hc1 : l1.length ≤ c1) (h : spec_DeadEnds.f k a0_0 a0_1 a0_2 a0_3 a0_4 a0_5 l1 = some (r1, r2)) :
  Calls Try.prog 40 #[.agg #[.bool a0_0, .bool a0_1, .bool a0_2, .bool a0_3, .bool a0_4, .int .i64 a0_5], .slice A1 l1.length c1] w fun e w' => ∃ v0_ : Value, e = .returned (.tuple #[v0_, .int .i64 r2]) ∧ Kd.R (Kd.int .i64) 2 w' w.heap.size (fun _ => True) v0_ r1 ∧ Below w.heap.size w w' := by
 have hu23 := Try.underlying23
 have HR1 := jA hr1
 have HC1 := jA hc1
 clear hr1 hc1
 have HB := jA (Below.refl w.heap.size w)
 have H := h
 unfold spec_DeadEnds.f at H
 clear h
 replace H := jD.mp H
 obtain ⟨t689, A30, H⟩ := H
 try dsimp only at H
 have A3 := jA A30
 clear A30
 by_cases c4 : t689 = 0
 ·rw [if_pos c4] at H
  have c4b0 : (t689 == 0) = true := beq_iff_eq.mpr c4
  have c4b1 : (t689 != 0) = false := bne_eq_false_iff_eq.mpr c4
  clear c4
  obtain ⟨y690, hy690⟩ : ∃ y_ : List Int, y_ = (([] : List Int)) := ⟨_, rfl⟩
  replace H : ((spec_l25Number.f k a0_0 a0_1 a0_2 a0_3 a0_4 a0_5).bind fun t693 => ((spec_l25Reached.f k t693 l1).bind fun t694 => (spec_DeadEnds.l0 k l1 y690 t694 0))) = some (r1, r2) := by first | (rw [hy690]; with_reducible exact H) | (have H2_ := (Option.bind_some _ _).symm.trans H; rw [hy690]; with_reducible exact H2_) | (have H2_ := (Option.bind_some _ _).symm.trans H; with_reducible exact H2_) | with_reducible exact H | (rw [hy690]; exact H) | exact H
  have Ny690 := jA hy690
  clear hy690
  replace H := jD.mp H
  obtain ⟨t693, A50, H⟩ := H
  try dsimp only at H
  have A5 := jA A50
  clear A50
  replace H := jD.mp H
  obtain ⟨t694, A60, H⟩ := H
  try dsimp only at H
  have A6 := jA A60
  clear A60
  have H' := jA H
  clear H
  go_enter Try.func40, Try.ntmps40
  go_wp2_with (first | ((with_reducible refine jK (N := 2) rfl ?_); refine zE 2 #[.bool a0_0, .bool a0_1, .bool a0_2, .bool a0_3, .bool a0_4, .int .i64 a0_5] 23 ?_; intro gb688 hg w7 hbox hb; have BK688 := jA (hbox); have GW688 := zg0 hg HB; have GE688 := zg0 hg HB; replace HB := zS0 HB hb; clear hb hbox hg; have hcz8 := zc6 BK688) | ((with_reducible refine jH (f := 70) rfl ?_); refine zL (some 12) Try.func70 #[.agg #[.bool a0_0, .bool a0_1, .bool a0_2, .bool a0_3, .bool a0_4, .int .i64 a0_5], .slice A1 l1.length c1] ?_; (with_reducible refine (spec_l25Code.calls k a0_0 a0_1 a0_2 a0_3 a0_4 a0_5 _ _ l1 t689 _ ?side1 ?side2 A3.out).mono ?_); (case side1 => exact zs HR1 HB); (case side2 => exact HC1.out); rintro e w9 ⟨rfl, hb⟩; refine ⟨_, rfl, ?_⟩; replace BK688 := zB BK688 hb; replace HB := zS1 HB GE688 hb; clear hb) | ((with_reducible refine jK (N := 16) rfl ?_); refine Kd.R_lit (Kd.int .i64) _ 2 ?hg (N := 16) ?hd (xs := ([] : List Int)) (inner := []) (ok := fun _ => True) (okp := fun _ => True) ?hr ?hp (fun _ hk => hk) trivial (Below.refl _ _) (Nat.le_refl _) (by simp) ?_; (case hd => rfl); (case hg => rfl); (case hr => first | (go_simp; done) | (go_simp; rfl)); (case hp => exact (Reps.none _ _)); intro v691 w10 ho11 hb hg_ hnew_; clear hg_ hnew_; (first | rw [← Ny690.out] at ho11 | (simp only [Int.reduceToNat] at ho11; rw [← Ny690.out] at ho11)); have HO692 := jA (jZ ho11 (jP (zb1 HB GE688))); replace BK688 := zB BK688 hb; replace HB := zS1 HB GE688 hb; clear hb ho11; have hcz12 := zc6 BK688) | ((with_reducible refine jH (f := 52) rfl ?_); refine zL (some 18) Try.func52 #[.agg #[.bool a0_0, .bool a0_1, .bool a0_2, .bool a0_3, .bool a0_4, .int .i64 a0_5]] ?_; (with_reducible refine (spec_l25Number.calls k a0_0 a0_1 a0_2 a0_3 a0_4 a0_5 t693 _ A5.out).mono ?_); rintro e w13 ⟨rfl, hb⟩; refine ⟨_, rfl, ?_⟩; replace HO692 := jA (jQ (zo HO692) hb); replace BK688 := zB BK688 hb; replace HB := zS1 HB GE688 hb; clear hb) | ((with_reducible refine jH (f := 74) rfl ?_); refine zL (some 20) Try.func74 #[.int .i64 t693, .slice A1 l1.length c1] ?_; (with_reducible refine (spec_l25Reached.calls k t693 _ _ l1 t694 _ ?side1 ?side2 A6.out).mono ?_); (case side1 => exact zs HR1 HB); (case side2 => exact HC1.out); rintro e w14 ⟨v695, rfl, ho0, hb⟩; refine ⟨_, rfl, ?_⟩; have HO696 := jA (jZ (Kd.R_new' ho0 (Kd.R_lt (zo HO692))) (jP (zb1 HB GE688))); replace HO692 := jA (Kd.R_elder' (zo HO692) (Kd.R_base ho0) hb); replace BK688 := zB BK688 hb; replace HB := zS1 HB GE688 hb; (try clear hb); (try clear hb2); (try clear hk); (try clear hi); (try clear ho0)))
  go_loopg [7, 9] k (fun kq v7 v9 w' => ∃ (x7_1 : List Int) (x9_1 : Int), v9 = .int .i64 x9_1 ∧ Aside0 (spec_DeadEnds.l0 kq l1 x7_1 t694 x9_1 = some (r1, r2)) ∧ Aside0 (kq ≤ k) ∧ Aside0 (Kd.R (Kd.int .i64) 2 w' w.heap.size (fun k_ => some k_ ≠ (v695 : Value).ownBlock) v7 x7_1) ∧ Aside0 (Kd.R (Kd.int .i64) 2 w' w.heap.size (fun k_ => some k_ ≠ (v7 : Value).ownBlock) v695 t694) ∧ Aside0 (w'.heap[gb688]? = some (.cells #[.bool a0_0, .bool a0_1, .bool a0_2, .bool a0_3, .bool a0_4, .int .i64 a0_5] 23 (0, 0))) ∧ Aside0 (Below w.heap.size w w'))
  case atStart => exact ⟨(y690), (0), zz, H', ⟨Nat.le_refl _⟩, ⟨by (with_reducible repeat (first | apply jV | apply jU | apply jS)); exact Kd.R_mono HO692.out (fun _ hk => hk.2)⟩, ⟨by (with_reducible repeat (first | apply jV | apply jU | apply jS)); exact Kd.R_mono HO696.out (fun _ hk => hk.2)⟩, ⟨zk BK688⟩, ⟨zb1 HB GE688⟩⟩
  case round =>
   clear H'
   try clear c1
   try clear p2
   try clear c4
   try clear c4b0
   try clear c4b1
   try clear c5
   try clear c7
   try clear hcz12
   try clear hcz8
   obtain ⟨x7_1, x9_1, rfl, HA, HK1, HO_7, HO_8, BK688, HB⟩ := hrel
   cases gk with
   | zero => exact absurd HA.out (by simp [spec_DeadEnds.l0])
   | succ k1 =>
    have H := HA.out
    clear HA
    simp only [spec_DeadEnds.l0] at H
    by_cases c15 : x9_1 < (t694.length : Int)
    ·rw [if_pos c15] at H
     have c15b0 : decide (x9_1 < (t694.length : Int)) = true := jJ c15
     clear c15
     by_cases c16 : 0 ≤ x9_1
     ·rw [if_pos c16] at H
      have c16b0 : decide (0 ≤ x9_1) = true := jJ c16
      clear c16
      replace H := jD.mp H
      obtain ⟨t698, A170, H⟩ := H
      replace H : (if t698 = true then (spec_DeadEnds.l0 k1 l1 x7_1 t694 (wrap64 (x9_1 + 1))) else (if x7_1.length < 17592186044416 then (spec_DeadEnds.l0 k1 l1 (x7_1 ++ [rd t694 x9_1]) t694 (wrap64 (x9_1 + 1))) else (none))) = some (r1, r2) := H
      have A17 := jA A170
      clear A170
      by_cases c18 : t698 = true
      ·subst c18
       rw [if_pos rfl] at H
       have H' := jA H
       clear H
       obtain ⟨Ao19, co19, eo19⟩ := Kd.R_slice HO_8.out
       subst eo19
       have p697 : 0 ≤ (x9_1 : Int) := jB za
       have q697 : x9_1 < (t694.length : Int) := jB za
       obtain ⟨ad697, e697, hx697_0⟩ := jR (jO HO_8.out).2.2 x9_1 p697 q697
       cases e697
       replace p697 := eq_true p697
       replace q697 := eq_true q697
       go_wp2_with (first | ((with_reducible refine jH (f := 76) rfl ?_); refine zL (some 32) Try.func76 #[.int .i64 (rd t694 x9_1), .slice A1 l1.length c1] ?_; (with_reducible refine (spec_l25Fires.calls k1 (rd t694 x9_1) _ _ l1 true _ ?side1 ?side2 A17.out).mono ?_); (case side1 => exact zs HR1 HB); (case side2 => exact HC1.out); rintro e w20 ⟨rfl, hb⟩; refine ⟨_, rfl, ?_⟩; replace HO_7 := jA (jQ (zo HO_7) hb); replace HO_8 := jA (jQ (zo HO_8) hb); replace BK688 := zB BK688 hb; replace HB := zS1 HB GE688 hb; clear hb))
       go_roundg k1
       case measure => have := HK1.out; omega
       case rel => exact ⟨(x7_1), (wrap64 (x9_1 + 1)), zz, H', ⟨by have := HK1.out; omega⟩, ⟨zo HO_7⟩, ⟨zo HO_8⟩, ⟨zk BK688⟩, ⟨zb1 HB GE688⟩⟩
      ·replace c18 := Bool.eq_false_iff.mpr c18
       subst c18
       rw [if_neg zfalse] at H
       by_cases c21 : x7_1.length < 17592186044416
       ·rw [if_pos c21] at H
        have LMc21 := jA c21
        clear c21
        obtain ⟨y700, hy700⟩ : ∃ y_ : List Int, y_ = (x7_1 ++ [rd t694 x9_1]) := ⟨_, rfl⟩
        replace H : (spec_DeadEnds.l0 k1 l1 y700 t694 (wrap64 (x9_1 + 1))) = some (r1, r2) := by first | (rw [hy700]; with_reducible exact H) | (have H2_ := (Option.bind_some _ _).symm.trans H; rw [hy700]; with_reducible exact H2_) | (have H2_ := (Option.bind_some _ _).symm.trans H; with_reducible exact H2_) | with_reducible exact H | (rw [hy700]; exact H) | exact H
        have Ny700 := jA hy700
        clear hy700
        have H' := jA H
        clear H
        obtain ⟨Ao22, co22, eo22⟩ := Kd.R_slice HO_8.out
        subst eo22
        have p697 : 0 ≤ (x9_1 : Int) := jB za
        have q697 : x9_1 < (t694.length : Int) := jB za
        obtain ⟨ad697, e697, hx697_0⟩ := jR (jO HO_8.out).2.2 x9_1 p697 q697
        cases e697
        replace p697 := eq_true p697
        replace q697 := eq_true q697
        go_wp2_with (first | ((with_reducible refine jH (f := 76) rfl ?_); refine zL (some 32) Try.func76 #[.int .i64 (rd t694 x9_1), .slice A1 l1.length c1] ?_; (with_reducible refine (spec_l25Fires.calls k1 (rd t694 x9_1) _ _ l1 false _ ?side1 ?side2 A17.out).mono ?_); (case side1 => exact zs HR1 HB); (case side2 => exact HC1.out); rintro e w23 ⟨rfl, hb⟩; refine ⟨_, rfl, ?_⟩; replace HO_7 := jA (jQ (zo HO_7) hb); replace HO_8 := jA (jQ (zo HO_8) hb); replace BK688 := zB BK688 hb; replace HB := zS1 HB GE688 hb; clear hb; have p699 : 0 ≤ (x9_1 : Int) := jB za; have q699 : x9_1 < (t694.length : Int) := jB za; obtain ⟨ad699, e699, hx699_0⟩ := jR (jO HO_8.out).2.2 x9_1 p699 q699; obtain rfl : ad697 = ad699 := (by injection e699); replace p699 := eq_true p699; replace q699 := eq_true q699) | ((with_reducible refine gate_builtin (b := .append) (xs := #[.tmp 34, .tmp 39]) rfl ?_); at_builtin; refine Kd.R_append (Kd.int .i64) (w0 := w) w.heap.size rfl (.tmp 34) (.tmp 39) 35 2 (.int .i64 0) 8 rfl Try.underlying35 info2 rfl (by decide) (by omega) u7 x7_1 (rd t694 x9_1) [.int .i64 (rd t694 x9_1)] (fun k_ => some k_ ≠ (.slice (some ad697) t694.length co22 : Value).ownBlock) (fun _ => False) rfl rfl ?aP (fun _ hk => hk.elim) ?aF ?aO ?aB ?aS ?aL ?_; (case aP => exact rfl); (case aB => exact (zb1 HB GE688)); (case aF => exact (fun k_ hk => Kd.fresh' (Kd.R_lt (zo HO_8)) k_ hk)); (case aO => exact (zo HO_7)); (case aS => exact (jP (zb1 HB GE688))); (case aL => have := LMc21.out; omega); intro v701 w24 ho hb hg hat; rw [← Ny700.out] at ho; replace HO_8 := jA (Kd.R_after (ok := (fun _ => True)) (by (with_reducible repeat (first | apply jV | apply jU | apply jS)); exact Kd.R_mono HO_8.out (fun _ hk => ⟨trivial, hk⟩)) hg hat); replace BK688 := jA (blk_grown (g := gb688) (o := .cells #[.bool a0_0, .bool a0_1, .bool a0_2, .bool a0_3, .bool a0_4, .int .i64 a0_5] 23 (0, 0)) (zk BK688) hg (Kd.R_ne HO_7.out BK688.out (by decide))); replace HB := jA (hb); have HO702 := jA (ho); clear HO_7; clear ho hb hg hat))
        go_roundg k1
        case measure => have := HK1.out; omega
        case rel => exact ⟨(y700), (wrap64 (x9_1 + 1)), zz, H', ⟨by have := HK1.out; omega⟩, ⟨zo HO702⟩, ⟨by (with_reducible repeat (first | apply jV | apply jU | apply jS)); exact Kd.R_mono HO_8.out (fun _ hk => hk.2)⟩, ⟨zk BK688⟩, ⟨zb1 HB GE688⟩⟩
       ·rw [if_neg c21] at H
        exact absurd H (by simp)
     ·rw [if_neg c16] at H
      exact absurd H (by simp)
    ·rw [if_neg c15] at H
     have c15b0 : decide (x9_1 < (t694.length : Int)) = false := jW c15
     clear c15
     simp only [jI, jM] at H
     obtain ⟨rfl, rfl⟩ := H
     obtain ⟨Ao25, co25, eo25⟩ := Kd.R_slice HO_8.out
     subst eo25
     go_wp2
     go_ret2
     exact ⟨_, ze, by (with_reducible repeat (first | apply jV | apply jU | apply jS)); exact Kd.R_mono HO_7.out (fun _ hk => trivial), zb1 HB GE688⟩
 ·rw [if_neg c4] at H
  have c4b0 : (t689 == 0) = false := beq_eq_false_iff_ne.mpr c4
  have c4b1 : (t689 != 0) = true := bne_iff_ne.mpr c4
  simp only [jI, jM] at H
  obtain ⟨rfl, rfl⟩ := H
  go_enter Try.func40, Try.ntmps40
  go_wp2_with (first | ((with_reducible refine jK (N := 2) rfl ?_); refine zE 2 #[.bool a0_0, .bool a0_1, .bool a0_2, .bool a0_3, .bool a0_4, .int .i64 a0_5] 23 ?_; intro gb688 hg w26 hbox hb; have BK688 := jA (hbox); have GW688 := zg0 hg HB; have GE688 := zg0 hg HB; replace HB := zS0 HB hb; clear hb hbox hg; have hcz27 := zc6 BK688) | ((with_reducible refine jH (f := 70) rfl ?_); refine zL (some 12) Try.func70 #[.agg #[.bool a0_0, .bool a0_1, .bool a0_2, .bool a0_3, .bool a0_4, .int .i64 a0_5], .slice A1 l1.length c1] ?_; (with_reducible refine (spec_l25Code.calls k a0_0 a0_1 a0_2 a0_3 a0_4 a0_5 _ _ l1 t689 _ ?side1 ?side2 A3.out).mono ?_); (case side1 => exact zs HR1 HB); (case side2 => exact HC1.out); rintro e w28 ⟨rfl, hb⟩; refine ⟨_, rfl, ?_⟩; replace BK688 := zB BK688 hb; replace HB := zS1 HB GE688 hb; clear hb))
  go_ret2
  exact ⟨_, ze, by first | exact Kd.R_nil _ _ _ _ _ | exact Kd.N_nil _ _ _ _ _ | exact Kd.V_nil _ _ _ _ _ | exact Kd.Q_nil _ _ _ _ _ | exact Kd.S_nil _ _ _ _ _, zb1 HB GE688⟩

/-! ### laws_likeInts: function 41 -/
def laws_likeInts.l0 : Nat → List Int → List Int → Int → Option (Bool)
 | 0, _, _, _ => none
 | k + 1, x0, x1, x5 => if x5 < (x0.length : Int) then (if 0 ≤ x5 then (if x5 < (x1.length : Int) then (if (rd x0 x5) = (rd x1 x5) then (laws_likeInts.l0 k x0 x1 (wrap64 (x5 + 1))) else (some false)) else (none)) else (none)) else (some true)
def laws_likeInts.f (k : Nat) (l0 : List Int) (l1 : List Int) : Option (Bool) := if (l0.length : Int) = (l1.length : Int) then (laws_likeInts.l0 k l0 l1 0) else (some false)
theorem laws_likeInts.mono_l : ∀ k, (∀ y0 y1 y2, LeO (laws_likeInts.l0 k y0 y1 y2) (laws_likeInts.l0 (k + 1) y0 y1 y2))
 | 0 => fun _ _ _ r h => by simp [laws_likeInts.l0] at h
 | k + 1 => by
  have ih0 := laws_likeInts.mono_l k
  ·intro y0 y1 y2
   unfold laws_likeInts.l0
   repeat' first
   | (with_reducible exact ih0 _ _ _)
   | (with_reducible exact LeO.refl _)
   | (with_reducible exact LeO.none _)
   | (with_reducible refine LeO.ite ?_ ?_)
   | (with_reducible refine LeO.bind ?_ (fun _ => ?_))
   | exact ih0 _ _ _
   | exact LeO.none _
   | refine LeO.ite ?_ ?_
   | refine LeO.bind ?_ (fun _ => ?_)
theorem laws_likeInts.mono : ∀ a0 a1 k, LeO (laws_likeInts.f k a0 a1) (laws_likeInts.f (k + 1) a0 a1) := by
 intro a0 a1 k
 have ih0 := laws_likeInts.mono_l k
 unfold laws_likeInts.f
 repeat' first
   | (with_reducible exact ih0 _ _ _)
   | (with_reducible exact LeO.refl _)
   | (with_reducible exact LeO.none _)
   | (with_reducible refine LeO.ite ?_ ?_)
   | (with_reducible refine LeO.bind ?_ (fun _ => ?_))
   | exact ih0 _ _ _
   | exact LeO.none _
   | refine LeO.ite ?_ ?_
   | refine LeO.bind ?_ (fun _ => ?_)
set_option maxHeartbeats 8000000 in
set_option maxRecDepth 100000 in
theorem laws_likeInts.calls (k : Nat) (A0 : Option Addr) (c0 : Nat) (l0 : List Int) (A1 : Option Addr) (c1 : Nat) (l1 : List Int) (r : Bool) (w : World) (hr0 : Kd.C (Kd.int .i64) w A0 l0.length l0) (hc0 : l0.length ≤ c0) (hr1 : Kd.C (Kd.int .i64) w A1 l1.length l1) (hc1 : l1.length ≤ c1) (h : laws_likeInts.f k l0 l1 = some r) :
  Calls Try.prog 41 #[.slice A0 l0.length c0, .slice A1 l1.length c1] w fun e w' => e = .returned (.bool r) ∧ Drawn0 w w' := by
 have HR0 := jA hr0
 have HC0 := jA hc0
 clear hr0 hc0
 have HR1 := jA hr1
 have HC1 := jA hc1
 clear hr1 hc1
 have H := h
 unfold laws_likeInts.f at H
 clear h
 by_cases c3 : (l0.length : Int) = (l1.length : Int)
 ·rw [if_pos c3] at H
  have c3b0 : ((l0.length : Int) == (l1.length : Int)) = true := beq_iff_eq.mpr c3
  have c3b1 : ((l0.length : Int) != (l1.length : Int)) = false := bne_eq_false_iff_eq.mpr c3
  have c3b2 : (l0.length == l1.length) = true := by first | simpa using c3 | (simp at c3 ⊢; omega)
  clear c3
  have H' := jA H
  clear H
  go_enter Try.func41, Try.ntmps41
  go_wp2
  repeat (go_quiet (fail); try go_wp2)
  go_loopg [5] k (fun kq v5 w' => ∃ (x5_1 : Int), v5 = .int .i64 x5_1 ∧ Aside0 (laws_likeInts.l0 kq l0 l1 x5_1 = some r) ∧ Aside0 (kq ≤ k) ∧ Drawn0 w w')
  case atStart => exact ⟨(0), zz, H', ⟨Nat.le_refl _⟩, by repeat (first | exact Drawn0.refl _ | apply Drawn0.step)⟩
  case round =>
   clear H'
   try clear c1
   try clear p2
   try clear c3
   try clear c3b0
   try clear c3b1
   try clear c3b2
   obtain ⟨x5_1, rfl, HA, HK1, ⟨m1, rfl⟩⟩ := hrel
   cases gk with
   | zero => exact absurd HA.out (by simp [laws_likeInts.l0])
   | succ k1 =>
    have H := HA.out
    clear HA
    simp only [laws_likeInts.l0] at H
    by_cases c4 : x5_1 < (l0.length : Int)
    ·rw [if_pos c4] at H
     have c4b0 : decide (x5_1 < (l0.length : Int)) = true := jJ c4
     clear c4
     by_cases c5 : 0 ≤ x5_1
     ·rw [if_pos c5] at H
      have c5b0 : decide (0 ≤ x5_1) = true := jJ c5
      clear c5
      by_cases c6 : x5_1 < (l1.length : Int)
      ·rw [if_pos c6] at H
       have c6b0 : decide (x5_1 < (l1.length : Int)) = true := jJ c6
       clear c6
       by_cases c7 : (rd l0 x5_1) = (rd l1 x5_1)
       ·rw [if_pos c7] at H
        have c7b0 : ((rd l0 x5_1) == (rd l1 x5_1)) = true := beq_iff_eq.mpr c7
        have c7b1 : ((rd l0 x5_1) != (rd l1 x5_1)) = false := bne_eq_false_iff_eq.mpr c7
        clear c7
        have H' := jA H
        clear H
        have p703 : 0 ≤ (x5_1 : Int) := jB za
        have q703 : x5_1 < (l0.length : Int) := jB za
        obtain ⟨ad703, e703, hx703_0⟩ := jR HR0.out x5_1 p703 q703
        cases e703
        replace p703 := eq_true p703
        replace q703 := eq_true q703
        have p704 : 0 ≤ (x5_1 : Int) := jB za
        have q704 : x5_1 < (l1.length : Int) := jB za
        obtain ⟨ad704, e704, hx704_0⟩ := jR HR1.out x5_1 p704 q704
        cases e704
        replace p704 := eq_true p704
        replace q704 := eq_true q704
        go_wp2
        repeat (go_quiet (fail); try go_wp2)
        go_roundg k1
        case measure => have := HK1.out; omega
        case rel => exact ⟨(wrap64 (x5_1 + 1)), zz, H', ⟨by have := HK1.out; omega⟩, by repeat (first | exact Drawn0.refl _ | apply Drawn0.step)⟩
       ·rw [if_neg c7] at H
        have c7b0 : ((rd l0 x5_1) == (rd l1 x5_1)) = false := beq_eq_false_iff_ne.mpr c7
        have c7b1 : ((rd l0 x5_1) != (rd l1 x5_1)) = true := bne_iff_ne.mpr c7
        obtain rfl := jN H
        have p703 : 0 ≤ (x5_1 : Int) := jB za
        have q703 : x5_1 < (l0.length : Int) := jB za
        obtain ⟨ad703, e703, hx703_0⟩ := jR HR0.out x5_1 p703 q703
        cases e703
        replace p703 := eq_true p703
        replace q703 := eq_true q703
        have p704 : 0 ≤ (x5_1 : Int) := jB za
        have q704 : x5_1 < (l1.length : Int) := jB za
        obtain ⟨ad704, e704, hx704_0⟩ := jR HR1.out x5_1 p704 q704
        cases e704
        replace p704 := eq_true p704
        replace q704 := eq_true q704
        go_wp2
        repeat (go_quiet (fail); try go_wp2)
        go_ret
        exact ⟨by first | rfl | (simp; done) | (simp [*]; done), by repeat (first | exact Drawn0.refl _ | apply Drawn0.step)⟩
      ·rw [if_neg c6] at H
       exact absurd H (by simp)
     ·rw [if_neg c5] at H
      exact absurd H (by simp)
    ·rw [if_neg c4] at H
     have c4b0 : decide (x5_1 < (l0.length : Int)) = false := jW c4
     clear c4
     obtain rfl := jN H
     go_wp2
     repeat (go_quiet (fail); try go_wp2)
     go_ret
     exact ⟨by first | rfl | (simp; done) | (simp [*]; done), by repeat (first | exact Drawn0.refl _ | apply Drawn0.step)⟩
 ·rw [if_neg c3] at H
  have c3b0 : ((l0.length : Int) == (l1.length : Int)) = false := beq_eq_false_iff_ne.mpr c3
  have c3b1 : ((l0.length : Int) != (l1.length : Int)) = true := bne_iff_ne.mpr c3
  have c3b2 : (l0.length == l1.length) = false := by first | simpa using c3 | (simp at c3 ⊢; omega)
  obtain rfl := jN H
  go_enter Try.func41, Try.ntmps41
  go_wp2
  repeat (go_quiet (fail); try go_wp2)
  go_ret
  exact ⟨by first | rfl | (simp; done) | (simp [*]; done), by repeat (first | exact Drawn0.refl _ | apply Drawn0.step)⟩

end Go.Proofs.Ythieppjmjgijfaa.PFnReached
