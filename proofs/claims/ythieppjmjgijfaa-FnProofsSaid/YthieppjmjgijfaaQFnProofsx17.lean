/- Functions and contracts that FnProofs reaches (18 of 22). -/
import Derived.Test.YthieppjmjgijfaaQFnProofsx16
namespace Go.Proofs.Ythieppjmjgijfaa.PFnProofs
open Go.RowKit Go.Proofs.YthieppjmjgijfaaW.PrintWords Go.Proofs.YthieppjmjgijfaaW.PrintLast Go.Proofs.YthieppjmjgijfaaW.PrintMore
attribute [local go_sem] max2_int min2_int max_two min_two max_three min_three max_four min_four   -- for this text's walks alone
set_option linter.unusedVariables false
set_option linter.unusedSimpArgs false

/-! ### spec_l25Leak: function 59 -/
mutual
def spec_l25Leak.l0 : Nat → List Int → List Int → Int → Option (Int × Int)
 | 0, _, _, _ => none
 | k + 1, x0, x1, x6 => if x6 < (x0.length : Int) then (if 0 ≤ x6 then ((spec_l25Next.f k (rd x0 x6) x1).bind fun t556 => (spec_l25Leak.l1 k x0 x1 x6 t556 0)) else (none)) else (some ((-1), (-1)))
def spec_l25Leak.l1 : Nat → List Int → List Int → Int → List Int → Int → Option (Int × Int)
 | 0, _, _, _, _, _ => none
 | k + 1, x0, x1, x6, x7, x8 => if x8 < (x7.length : Int) then (if 0 ≤ x8 then (if (rd x7 x8) ≥ 0 then ((spec_l01Has.f k x0 (rd x7 x8)).bind fun t561 => (if t561 = true then (spec_l25Leak.l1 k x0 x1 x6 x7 (wrap64 (x8 + 1))) else (if 0 ≤ x6 then (if x6 < (x0.length : Int) then (if x8 < (x1.length : Int) then (some (rd x0 x6, rd x1 x8)) else (none)) else (none)) else (none)))) else (spec_l25Leak.l1 k x0 x1 x6 x7 (wrap64 (x8 + 1)))) else (none)) else (spec_l25Leak.l0 k x0 x1 (wrap64 (x6 + 1)))
end
def spec_l25Leak.f (k : Nat) (l0 : List Int) (l1 : List Int) : Option (Int × Int) := spec_l25Leak.l0 k l0 l1 0
theorem spec_l25Leak.mono_l : ∀ k, (∀ y0 y1 y2, LeO (spec_l25Leak.l0 k y0 y1 y2) (spec_l25Leak.l0 (k + 1) y0 y1 y2)) ∧ (∀ y0 y1 y2 y3 y4, LeO (spec_l25Leak.l1 k y0 y1 y2 y3 y4) (spec_l25Leak.l1 (k + 1) y0 y1 y2 y3 y4))
 | 0 => ⟨fun _ _ _ r h => by simp [spec_l25Leak.l0] at h, fun _ _ _ _ _ r h => by simp [spec_l25Leak.l1] at h⟩
 | k + 1 => by
  obtain ⟨ih0, ih1⟩ := spec_l25Leak.mono_l k
  refine ⟨?_, ?_⟩
  ·intro y0 y1 y2
   unfold spec_l25Leak.l0
   repeat' first
   | (with_reducible exact ih0 _ _ _)
   | (with_reducible exact ih1 _ _ _ _ _)
   | (with_reducible exact spec_l01Has.mono _ _ _)
   | (with_reducible exact spec_l25Next.mono _ _ _)
   | (with_reducible exact LeO.refl _)
   | (with_reducible exact LeO.none _)
   | (with_reducible refine LeO.ite ?_ ?_)
   | (with_reducible refine LeO.bind ?_ (fun _ => ?_))
   | exact ih0 _ _ _
   | exact ih1 _ _ _ _ _
   | exact spec_l01Has.mono _ _ _
   | exact spec_l25Next.mono _ _ _
   | exact LeO.none _
   | refine LeO.ite ?_ ?_
   | refine LeO.bind ?_ (fun _ => ?_)
  ·intro y0 y1 y2 y3 y4
   unfold spec_l25Leak.l1
   repeat' first
   | (with_reducible exact ih0 _ _ _)
   | (with_reducible exact ih1 _ _ _ _ _)
   | (with_reducible exact spec_l01Has.mono _ _ _)
   | (with_reducible exact spec_l25Next.mono _ _ _)
   | (with_reducible exact LeO.refl _)
   | (with_reducible exact LeO.none _)
   | (with_reducible refine LeO.ite ?_ ?_)
   | (with_reducible refine LeO.bind ?_ (fun _ => ?_))
   | exact ih0 _ _ _
   | exact ih1 _ _ _ _ _
   | exact spec_l01Has.mono _ _ _
   | exact spec_l25Next.mono _ _ _
   | exact LeO.none _
   | refine LeO.ite ?_ ?_
   | refine LeO.bind ?_ (fun _ => ?_)
theorem spec_l25Leak.mono : ∀ a0 a1 k, LeO (spec_l25Leak.f k a0 a1) (spec_l25Leak.f (k + 1) a0 a1) := by
 intro a0 a1 k
 obtain ⟨ih0, ih1⟩ := spec_l25Leak.mono_l k
 unfold spec_l25Leak.f
 repeat' first
   | (with_reducible exact ih0 _ _ _)
   | (with_reducible exact ih1 _ _ _ _ _)
   | (with_reducible exact spec_l01Has.mono _ _ _)
   | (with_reducible exact spec_l25Next.mono _ _ _)
   | (with_reducible exact LeO.refl _)
   | (with_reducible exact LeO.none _)
   | (with_reducible refine LeO.ite ?_ ?_)
   | (with_reducible refine LeO.bind ?_ (fun _ => ?_))
   | exact ih0 _ _ _
   | exact ih1 _ _ _ _ _
   | exact spec_l01Has.mono _ _ _
   | exact spec_l25Next.mono _ _ _
   | exact LeO.none _
   | refine LeO.ite ?_ ?_
   | refine LeO.bind ?_ (fun _ => ?_)
set_option maxHeartbeats 8000000 in
set_option maxRecDepth 100000 in
theorem spec_l25Leak.calls (k : Nat) (A0 : Option Addr) (c0 : Nat) (l0 : List Int) (A1 : Option Addr) (c1 : Nat) (l1 : List Int) (r1 : Int) (r2 : Int) (w : World) (hr0 : Kd.C (Kd.int .i64) w A0 l0.length l0) (hc0 : l0.length ≤ c0) (hr1 : Kd.C (Kd.int .i64) w A1 l1.length l1) (hc1 : l1.length ≤ c1) (h : spec_l25Leak.f k l0 l1 = some (r1, r2)) :
  Calls Try.prog 59 #[.slice A0 l0.length c0, .slice A1 l1.length c1] w fun e w' => e = .returned (.tuple #[.int .i64 r1, .int .i64 r2]) ∧ Below w.heap.size w w' := by
 have HR0 := jA hr0
 have HC0 := jA hc0
 clear hr0 hc0
 have HR1 := jA hr1
 have HC1 := jA hc1
 clear hr1 hc1
 have HB := jA (Below.refl w.heap.size w)
 have H : (spec_l25Leak.l0 k l0 l1 0) = some (r1, r2) := h
 clear h
 have H' := jA H
 clear H
 go_enter Try.func59, Try.ntmps59
 go_wp2
 repeat (go_quiet (fail); try go_wp2)
 go_loopg [6] k (fun kq v6 w' => ∃ (x6_1 : Int), v6 = .int .i64 x6_1 ∧ Aside0 (spec_l25Leak.l0 kq l0 l1 x6_1 = some (r1, r2)) ∧ Aside0 (kq ≤ k) ∧ Aside0 (Below w.heap.size w w'))
 case atStart => exact ⟨(0), zz, H', ⟨Nat.le_refl _⟩, ⟨zb0 HB⟩⟩
 case round =>
  clear H'
  try clear c1
  try clear p2
  obtain ⟨x6_1, rfl, HA, HK1, HB⟩ := hrel
  cases gk with
  | zero => exact absurd HA.out (by simp [spec_l25Leak.l0])
  | succ k1 =>
   have H := HA.out
   clear HA
   simp only [spec_l25Leak.l0] at H
   by_cases c3 : x6_1 < (l0.length : Int)
   ·rw [if_pos c3] at H
    have c3b0 : decide (x6_1 < (l0.length : Int)) = true := jI c3
    clear c3
    by_cases c4 : 0 ≤ x6_1
    ·rw [if_pos c4] at H
     have c4b0 : decide (0 ≤ x6_1) = true := jI c4
     clear c4
     replace H := jC.mp H
     obtain ⟨t556, A50, H⟩ := H
     try dsimp only at H
     have A5 := jA A50
     clear A50
     have H' := jA H
     clear H
     have p555 : 0 ≤ (x6_1 : Int) := jB za
     have q555 : x6_1 < (l0.length : Int) := jB za
     obtain ⟨ad555, e555, hx555_0⟩ := jR HR0.out x6_1 p555 q555
     cases e555
     replace hx555_0 := zx HB hx555_0
     replace p555 := eq_true p555
     replace q555 := eq_true q555
     go_wp2_with (first | (go_at_call 71; (with_reducible refine (spec_l25Next.calls k1 (rd l0 x6_1) _ _ l1 t556 _ ?side1 ?side2 A5.out).mono ?_); (case side1 => exact zs HR1 HB); (case side2 => exact HC1.out); rintro e w6 ⟨v557, rfl, ho0, hb⟩; have HO558 := jA (jX ho0 (jT (zb0 HB))); replace HB := zS0 HB hb; (try clear hb); (try clear hb2); (try clear hk); (try clear hi); (try clear ho0)))
     repeat (go_quiet (first | (go_at_call 71; (with_reducible refine (spec_l25Next.calls k1 (rd l0 x6_1) _ _ l1 t556 _ ?side1 ?side2 A5.out).mono ?_); (case side1 => exact zs HR1 HB); (case side2 => exact HC1.out); rintro e w6 ⟨v557, rfl, ho0, hb⟩; have HO558 := jA (jX ho0 (jT (zb0 HB))); replace HB := zS0 HB hb; (try clear hb); (try clear hb2); (try clear hk); (try clear hi); (try clear ho0))); try go_wp2_with (first | (go_at_call 71; (with_reducible refine (spec_l25Next.calls k1 (rd l0 x6_1) _ _ l1 t556 _ ?side1 ?side2 A5.out).mono ?_); (case side1 => exact zs HR1 HB); (case side2 => exact HC1.out); rintro e w6 ⟨v557, rfl, ho0, hb⟩; have HO558 := jA (jX ho0 (jT (zb0 HB))); replace HB := zS0 HB hb; (try clear hb); (try clear hb2); (try clear hk); (try clear hi); (try clear ho0))))
     go_loopg [8] k1 (fun kq v8 w' => ∃ (x8_2 : Int), v8 = .int .i64 x8_2 ∧ Aside0 (spec_l25Leak.l1 kq l0 l1 x6_1 t556 x8_2 = some (r1, r2)) ∧ Aside0 (kq ≤ k1) ∧ Aside0 (Kd.R (Kd.int .i64) 2 w' w.heap.size (fun _ => True) v557 t556) ∧ Aside0 (Below w.heap.size w w'))
     case atStart => exact ⟨(0), zz, H', ⟨Nat.le_refl _⟩, ⟨zo HO558⟩, ⟨zb0 HB⟩⟩
     case round =>
      clear H'
      try clear c1
      try clear p2
      try clear c3
      try clear c3b0
      try clear c4
      try clear c4b0
      try clear c5
      try clear p5
      try clear q5
      try clear hx5
      try clear hx555_0
      try clear p2
      try clear p555
      try clear q555
      obtain ⟨x8_2, rfl, HA, HK2, HO_7, HB⟩ := hrel
      cases gk with
      | zero => exact absurd HA.out (by simp [spec_l25Leak.l1])
      | succ k2 =>
       have H := HA.out
       clear HA
       simp only [spec_l25Leak.l1] at H
       by_cases c7 : x8_2 < (t556.length : Int)
       ·rw [if_pos c7] at H
        have c7b0 : decide (x8_2 < (t556.length : Int)) = true := jI c7
        clear c7
        by_cases c8 : 0 ≤ x8_2
        ·rw [if_pos c8] at H
         have c8b0 : decide (0 ≤ x8_2) = true := jI c8
         clear c8
         by_cases c9 : (rd t556 x8_2) ≥ 0
         ·rw [if_pos c9] at H
          have c9b0 : decide (0 ≤ (rd t556 x8_2)) = true := jI c9
          clear c9
          replace H := jC.mp H
          obtain ⟨t561, A100, H⟩ := H
          replace H : (if t561 = true then (spec_l25Leak.l1 k2 l0 l1 x6_1 t556 (wrap64 (x8_2 + 1))) else (if 0 ≤ x6_1 then (if x6_1 < (l0.length : Int) then (if x8_2 < (l1.length : Int) then (some (rd l0 x6_1, rd l1 x8_2)) else (none)) else (none)) else (none))) = some (r1, r2) := H
          have A10 := jA A100
          clear A100
          by_cases c11 : t561 = true
          ·subst c11
           rw [if_pos rfl] at H
           have H' := jA H
           clear H
           obtain ⟨Ao12, co12, eo12⟩ := Kd.R_slice HO_7.out
           subst eo12
           have p559 : 0 ≤ (x8_2 : Int) := jB za
           have q559 : x8_2 < (t556.length : Int) := jB za
           obtain ⟨ad559, e559, hx559_0⟩ := jR (jO HO_7.out).2.2 x8_2 p559 q559
           cases e559
           replace p559 := eq_true p559
           replace q559 := eq_true q559
           have p560 : 0 ≤ (x8_2 : Int) := jB za
           have q560 : x8_2 < (t556.length : Int) := jB za
           obtain ⟨ad560, e560, hx560_0⟩ := jR (jO HO_7.out).2.2 x8_2 p560 q560
           obtain rfl : ad559 = ad560 := (by injection e560)
           replace p560 := eq_true p560
           replace q560 := eq_true q560
           go_wp2_with (first | (go_at_call 72; (with_reducible refine (spec_l01Has.calls k2 _ _ l0 (rd t556 x8_2) true _ ?side1 ?side2 A10.out).mono ?_); (case side1 => exact zs HR0 HB); (case side2 => exact HC0.out); rintro e w' ⟨rfl, ⟨nd, rfl⟩⟩; (try first | exact ⟨rfl, _, World.drewN_drewN _ _ _⟩ | exact ⟨rfl, _, Eq.trans (World.drewN_drewN _ _ _) (congrArg (World.drewN _) (Nat.add_assoc _ _ _))⟩)))
           repeat (go_quiet (first | (go_at_call 72; (with_reducible refine (spec_l01Has.calls k2 _ _ l0 (rd t556 x8_2) true _ ?side1 ?side2 A10.out).mono ?_); (case side1 => exact zs HR0 HB); (case side2 => exact HC0.out); rintro e w' ⟨rfl, ⟨nd, rfl⟩⟩; (try first | exact ⟨rfl, _, World.drewN_drewN _ _ _⟩ | exact ⟨rfl, _, Eq.trans (World.drewN_drewN _ _ _) (congrArg (World.drewN _) (Nat.add_assoc _ _ _))⟩))); try go_wp2_with (first | (go_at_call 72; (with_reducible refine (spec_l01Has.calls k2 _ _ l0 (rd t556 x8_2) true _ ?side1 ?side2 A10.out).mono ?_); (case side1 => exact zs HR0 HB); (case side2 => exact HC0.out); rintro e w' ⟨rfl, ⟨nd, rfl⟩⟩; (try first | exact ⟨rfl, _, World.drewN_drewN _ _ _⟩ | exact ⟨rfl, _, Eq.trans (World.drewN_drewN _ _ _) (congrArg (World.drewN _) (Nat.add_assoc _ _ _))⟩))))
           go_roundg k2
           case measure => have := HK1.out; have := HK2.out; omega
           case rel => exact ⟨(wrap64 (x8_2 + 1)), zz, H', ⟨by have := HK1.out; have := HK2.out; omega⟩, ⟨zo HO_7⟩, ⟨zb0 HB⟩⟩
          ·replace c11 := Bool.eq_false_iff.mpr c11
           subst c11
           rw [if_neg zfalse] at H
           by_cases c13 : 0 ≤ x6_1
           ·rw [if_pos c13] at H
            have c13b0 : decide (0 ≤ x6_1) = true := jI c13
            clear c13
            by_cases c14 : x6_1 < (l0.length : Int)
            ·rw [if_pos c14] at H
             have c14b0 : decide (x6_1 < (l0.length : Int)) = true := jI c14
             clear c14
             by_cases c15 : x8_2 < (l1.length : Int)
             ·rw [if_pos c15] at H
              have c15b0 : decide (x8_2 < (l1.length : Int)) = true := jI c15
              clear c15
              simp only [jH, jK] at H
              obtain ⟨rfl, rfl⟩ := H
              obtain ⟨Ao16, co16, eo16⟩ := Kd.R_slice HO_7.out
              subst eo16
              have p559 : 0 ≤ (x8_2 : Int) := jB za
              have q559 : x8_2 < (t556.length : Int) := jB za
              obtain ⟨ad559, e559, hx559_0⟩ := jR (jO HO_7.out).2.2 x8_2 p559 q559
              cases e559
              replace p559 := eq_true p559
              replace q559 := eq_true q559
              have p560 : 0 ≤ (x8_2 : Int) := jB za
              have q560 : x8_2 < (t556.length : Int) := jB za
              obtain ⟨ad560, e560, hx560_0⟩ := jR (jO HO_7.out).2.2 x8_2 p560 q560
              obtain rfl : ad559 = ad560 := (by injection e560)
              replace p560 := eq_true p560
              replace q560 := eq_true q560
              go_wp2_with (first | (go_at_call 72; (with_reducible refine (spec_l01Has.calls k2 _ _ l0 (rd t556 x8_2) false _ ?side1 ?side2 A10.out).mono ?_); (case side1 => exact zs HR0 HB); (case side2 => exact HC0.out); rintro e w' ⟨rfl, ⟨nd, rfl⟩⟩; (first | exact ⟨rfl, _, World.drewN_drewN _ _ _⟩ | exact ⟨rfl, _, Eq.trans (World.drewN_drewN _ _ _) (congrArg (World.drewN _) (Nat.add_assoc _ _ _))⟩ | (have p562 : 0 ≤ (x6_1 : Int) := jB za; have q562 : x6_1 < (l0.length : Int) := jB za; obtain ⟨ad562, e562, hx562_0⟩ := jR HR0.out x6_1 p562 q562; obtain rfl : ad555 = ad562 := (by injection e562); replace hx562_0 := zx HB hx562_0; replace p562 := eq_true p562; replace q562 := eq_true q562; have p563 : 0 ≤ (x8_2 : Int) := jB za; have q563 : x8_2 < (l1.length : Int) := jB za; obtain ⟨ad563, e563, hx563_0⟩ := jR HR1.out x8_2 p563 q563; cases e563; replace hx563_0 := zx HB hx563_0; replace p563 := eq_true p563; replace q563 := eq_true q563))))
              repeat (go_quiet (first | (go_at_call 72; (with_reducible refine (spec_l01Has.calls k2 _ _ l0 (rd t556 x8_2) false _ ?side1 ?side2 A10.out).mono ?_); (case side1 => exact zs HR0 HB); (case side2 => exact HC0.out); rintro e w' ⟨rfl, ⟨nd, rfl⟩⟩; (first | exact ⟨rfl, _, World.drewN_drewN _ _ _⟩ | exact ⟨rfl, _, Eq.trans (World.drewN_drewN _ _ _) (congrArg (World.drewN _) (Nat.add_assoc _ _ _))⟩ | (have p562 : 0 ≤ (x6_1 : Int) := jB za; have q562 : x6_1 < (l0.length : Int) := jB za; obtain ⟨ad562, e562, hx562_0⟩ := jR HR0.out x6_1 p562 q562; obtain rfl : ad555 = ad562 := (by injection e562); replace hx562_0 := zx HB hx562_0; replace p562 := eq_true p562; replace q562 := eq_true q562; have p563 : 0 ≤ (x8_2 : Int) := jB za; have q563 : x8_2 < (l1.length : Int) := jB za; obtain ⟨ad563, e563, hx563_0⟩ := jR HR1.out x8_2 p563 q563; cases e563; replace hx563_0 := zx HB hx563_0; replace p563 := eq_true p563; replace q563 := eq_true q563)))); try go_wp2_with (first | (go_at_call 72; (with_reducible refine (spec_l01Has.calls k2 _ _ l0 (rd t556 x8_2) false _ ?side1 ?side2 A10.out).mono ?_); (case side1 => exact zs HR0 HB); (case side2 => exact HC0.out); rintro e w' ⟨rfl, ⟨nd, rfl⟩⟩; (first | exact ⟨rfl, _, World.drewN_drewN _ _ _⟩ | exact ⟨rfl, _, Eq.trans (World.drewN_drewN _ _ _) (congrArg (World.drewN _) (Nat.add_assoc _ _ _))⟩ | (have p562 : 0 ≤ (x6_1 : Int) := jB za; have q562 : x6_1 < (l0.length : Int) := jB za; obtain ⟨ad562, e562, hx562_0⟩ := jR HR0.out x6_1 p562 q562; obtain rfl : ad555 = ad562 := (by injection e562); replace hx562_0 := zx HB hx562_0; replace p562 := eq_true p562; replace q562 := eq_true q562; have p563 : 0 ≤ (x8_2 : Int) := jB za; have q563 : x8_2 < (l1.length : Int) := jB za; obtain ⟨ad563, e563, hx563_0⟩ := jR HR1.out x8_2 p563 q563; cases e563; replace hx563_0 := zx HB hx563_0; replace p563 := eq_true p563; replace q563 := eq_true q563)))))
              go_ret2
              exact ⟨ze, zb0 HB⟩
             ·rw [if_neg c15] at H
              exact absurd H (by simp)
            ·rw [if_neg c14] at H
             exact absurd H (by simp)
           ·rw [if_neg c13] at H
            exact absurd H (by simp)
         ·rw [if_neg c9] at H
          have c9b0 : decide (0 ≤ (rd t556 x8_2)) = false := jS c9
          clear c9
          have H' := jA H
          clear H
          obtain ⟨Ao17, co17, eo17⟩ := Kd.R_slice HO_7.out
          subst eo17
          have p559 : 0 ≤ (x8_2 : Int) := jB za
          have q559 : x8_2 < (t556.length : Int) := jB za
          obtain ⟨ad559, e559, hx559_0⟩ := jR (jO HO_7.out).2.2 x8_2 p559 q559
          cases e559
          replace p559 := eq_true p559
          replace q559 := eq_true q559
          go_wp2
          repeat (go_quiet (fail); try go_wp2)
          go_roundg k2
          case measure => have := HK1.out; have := HK2.out; omega
          case rel => exact ⟨(wrap64 (x8_2 + 1)), zz, H', ⟨by have := HK1.out; have := HK2.out; omega⟩, ⟨zo HO_7⟩, ⟨zb0 HB⟩⟩
        ·rw [if_neg c8] at H
         exact absurd H (by simp)
       ·rw [if_neg c7] at H
        have c7b0 : decide (x8_2 < (t556.length : Int)) = false := jS c7
        clear c7
        have H' := jA H
        clear H
        obtain ⟨Ao18, co18, eo18⟩ := Kd.R_slice HO_7.out
        subst eo18
        go_wp2
        repeat (go_quiet (fail); try go_wp2)
        go_roundg k2
        case measure => have := HK1.out; have := HK2.out; omega
        case rel => exact ⟨(wrap64 (x6_1 + 1)), zz, H', ⟨by have := HK1.out; have := HK2.out; omega⟩, ⟨zb0 HB⟩⟩
    ·rw [if_neg c4] at H
     exact absurd H (by simp)
   ·rw [if_neg c3] at H
    have c3b0 : decide (x6_1 < (l0.length : Int)) = false := jS c3
    clear c3
    simp only [jH, jK] at H
    obtain ⟨rfl, rfl⟩ := H
    go_wp2
    repeat (go_quiet (fail); try go_wp2)
    go_ret2
    exact ⟨ze, zb0 HB⟩

/-! ### spec_FirstLeak: function 22 -/
def spec_FirstLeak.f (k : Nat) (l0 : List Int) (l1 : List Int) : Option (Int × Int × Int) := (spec_l25Safe.f k l0 l1).bind fun t564 => (if t564 = 0 then ((spec_l25Leak.f k l0 l1).bind fun bt565 => (if bt565.1 < 0 then (some (0, 0, 4)) else (some (bt565.1, bt565.2, 0)))) else (some (0, 0, t564)))
theorem spec_FirstLeak.mono : ∀ a0 a1 k, LeO (spec_FirstLeak.f k a0 a1) (spec_FirstLeak.f (k + 1) a0 a1) := by
 intro a0 a1 k
 unfold spec_FirstLeak.f
 repeat' first
   | (with_reducible exact spec_l25Leak.mono _ _ _)
   | (with_reducible exact spec_l25Safe.mono _ _ _)
   | (with_reducible exact LeO.refl _)
   | (with_reducible exact LeO.none _)
   | (with_reducible refine LeO.ite ?_ ?_)
   | (with_reducible refine LeO.bind ?_ (fun _ => ?_))
   | exact spec_l25Leak.mono _ _ _
   | exact spec_l25Safe.mono _ _ _
   | exact LeO.none _
   | refine LeO.ite ?_ ?_
   | refine LeO.bind ?_ (fun _ => ?_)
set_option maxHeartbeats 8000000 in
set_option maxRecDepth 100000 in
theorem spec_FirstLeak.calls (k : Nat) (A0 : Option Addr) (c0 : Nat) (l0 : List Int) (A1 : Option Addr) (c1 : Nat) (l1 : List Int) (r1 : Int) (r2 : Int) (r3 : Int) (w : World) (hr0 : Kd.C (Kd.int .i64) w A0 l0.length l0) (hc0 : l0.length ≤ c0) (hr1 : Kd.C (Kd.int .i64) w A1 l1.length l1) (hc1 : l1.length ≤ c1) (h : spec_FirstLeak.f k l0 l1 = some (r1, r2, r3)) :
  Calls Try.prog 22 #[.slice A0 l0.length c0, .slice A1 l1.length c1] w fun e w' => e = .returned (.tuple #[.int .i64 r1, .int .i64 r2, .int .i64 r3]) ∧ Below w.heap.size w w' := by
 have HR0 := jA hr0
 have HC0 := jA hc0
 clear hr0 hc0
 have HR1 := jA hr1
 have HC1 := jA hc1
 clear hr1 hc1
 have HB := jA (Below.refl w.heap.size w)
 have H := h
 unfold spec_FirstLeak.f at H
 clear h
 replace H := jC.mp H
 obtain ⟨t564, A30, H⟩ := H
 try dsimp only at H
 have A3 := jA A30
 clear A30
 by_cases c4 : t564 = 0
 ·rw [if_pos c4] at H
  have c4b0 : (t564 == 0) = true := beq_iff_eq.mpr c4
  have c4b1 : (t564 != 0) = false := bne_eq_false_iff_eq.mpr c4
  clear c4
  replace H := jC.mp H
  obtain ⟨⟨t565, t566⟩, A50, H⟩ := H
  try dsimp only at H
  have A5 := jA A50
  clear A50
  by_cases c6 : t565 < 0
  ·rw [if_pos c6] at H
   have c6b0 : decide (t565 < 0) = true := jI c6
   clear c6
   simp only [jH, jK] at H
   obtain ⟨rfl, rfl, rfl⟩ := H
   go_enter Try.func22, Try.ntmps22
   go_wp2_with (first | ((with_reducible refine jG (f := 58) rfl ?_); refine zL (some 12) Try.func58 #[.slice A0 l0.length c0, .slice A1 l1.length c1] ?_; (with_reducible refine (spec_l25Safe.calls k _ _ l0 _ _ l1 t564 _ ?side1 ?side2 ?side3 ?side4 A3.out).mono ?_); (case side1 => repeat (first | exact HR0.out | (with_reducible refine Kd.C_alloc ?_ _) | (with_reducible refine Kd.C_drewN ?_ _) | (with_reducible refine Kd.C_drew ?_))); (case side2 => exact HC0.out); (case side3 => repeat (first | exact HR1.out | (with_reducible refine Kd.C_alloc ?_ _) | (with_reducible refine Kd.C_drewN ?_ _) | (with_reducible refine Kd.C_drew ?_))); (case side4 => exact HC1.out); rintro e w7 ⟨rfl, hb⟩; refine ⟨_, rfl, ?_⟩; replace HB := zS0 HB hb; clear hb) | ((with_reducible refine jG (f := 59) rfl ?_); refine zL (some 19) Try.func59 #[.slice A0 l0.length c0, .slice A1 l1.length c1] ?_; (with_reducible refine (spec_l25Leak.calls k _ _ l0 _ _ l1 t565 t566 _ ?side1 ?side2 ?side3 ?side4 A5.out).mono ?_); (case side1 => exact zs HR0 HB); (case side2 => exact HC0.out); (case side3 => exact zs HR1 HB); (case side4 => exact HC1.out); rintro e w8 ⟨rfl, hb⟩; refine ⟨_, rfl, ?_⟩; replace HB := zS0 HB hb; clear hb))
   go_ret3
   exact ⟨ze, zb0 HB⟩
  ·rw [if_neg c6] at H
   have c6b0 : decide (t565 < 0) = false := jS c6
   clear c6
   simp only [jH, jK] at H
   obtain ⟨rfl, rfl, rfl⟩ := H
   go_enter Try.func22, Try.ntmps22
   go_wp2_with (first | ((with_reducible refine jG (f := 58) rfl ?_); refine zL (some 12) Try.func58 #[.slice A0 l0.length c0, .slice A1 l1.length c1] ?_; (with_reducible refine (spec_l25Safe.calls k _ _ l0 _ _ l1 t564 _ ?side1 ?side2 ?side3 ?side4 A3.out).mono ?_); (case side1 => repeat (first | exact HR0.out | (with_reducible refine Kd.C_alloc ?_ _) | (with_reducible refine Kd.C_drewN ?_ _) | (with_reducible refine Kd.C_drew ?_))); (case side2 => exact HC0.out); (case side3 => repeat (first | exact HR1.out | (with_reducible refine Kd.C_alloc ?_ _) | (with_reducible refine Kd.C_drewN ?_ _) | (with_reducible refine Kd.C_drew ?_))); (case side4 => exact HC1.out); rintro e w9 ⟨rfl, hb⟩; refine ⟨_, rfl, ?_⟩; replace HB := zS0 HB hb; clear hb) | ((with_reducible refine jG (f := 59) rfl ?_); refine zL (some 19) Try.func59 #[.slice A0 l0.length c0, .slice A1 l1.length c1] ?_; (with_reducible refine (spec_l25Leak.calls k _ _ l0 _ _ l1 t565 t566 _ ?side1 ?side2 ?side3 ?side4 A5.out).mono ?_); (case side1 => exact zs HR0 HB); (case side2 => exact HC0.out); (case side3 => exact zs HR1 HB); (case side4 => exact HC1.out); rintro e w10 ⟨rfl, hb⟩; refine ⟨_, rfl, ?_⟩; replace HB := zS0 HB hb; clear hb))
   go_ret3
   exact ⟨ze, zb0 HB⟩
 ·rw [if_neg c4] at H
  have c4b0 : (t564 == 0) = false := beq_eq_false_iff_ne.mpr c4
  have c4b1 : (t564 != 0) = true := bne_iff_ne.mpr c4
  simp only [jH, jK] at H
  obtain ⟨rfl, rfl, rfl⟩ := H
  go_enter Try.func22, Try.ntmps22
  go_wp2_with (first | ((with_reducible refine jG (f := 58) rfl ?_); refine zL (some 12) Try.func58 #[.slice A0 l0.length c0, .slice A1 l1.length c1] ?_; (with_reducible refine (spec_l25Safe.calls k _ _ l0 _ _ l1 t564 _ ?side1 ?side2 ?side3 ?side4 A3.out).mono ?_); (case side1 => repeat (first | exact HR0.out | (with_reducible refine Kd.C_alloc ?_ _) | (with_reducible refine Kd.C_drewN ?_ _) | (with_reducible refine Kd.C_drew ?_))); (case side2 => exact HC0.out); (case side3 => repeat (first | exact HR1.out | (with_reducible refine Kd.C_alloc ?_ _) | (with_reducible refine Kd.C_drewN ?_ _) | (with_reducible refine Kd.C_drew ?_))); (case side4 => exact HC1.out); rintro e w11 ⟨rfl, hb⟩; refine ⟨_, rfl, ?_⟩; replace HB := zS0 HB hb; clear hb))
  go_ret3
  exact ⟨ze, zb0 HB⟩

/-! ### impl_AreClosed: function 23 -/
def impl_AreClosed.f (k : Nat) (l0 : List Int) (l1 : List Int) : Option (Bool × Int) := (impl_areSafe.f k l0).bind fun t567 => (if t567 = true then ((impl_isHand.f k l1).bind fun t568 => (if t568 = true then ((impl_firstLeak.f k l0 l1).bind fun bt569 => (some (!bt569.2.2, 0))) else (some (false, 1)))) else (some (false, 1)))
theorem impl_AreClosed.mono : ∀ a0 a1 k, LeO (impl_AreClosed.f k a0 a1) (impl_AreClosed.f (k + 1) a0 a1) := by
 intro a0 a1 k
 unfold impl_AreClosed.f
 repeat' first
   | (with_reducible exact impl_areSafe.mono _ _)
   | (with_reducible exact impl_firstLeak.mono _ _ _)
   | (with_reducible exact impl_isHand.mono _ _)
   | (with_reducible exact LeO.refl _)
   | (with_reducible exact LeO.none _)
   | (with_reducible refine LeO.ite ?_ ?_)
   | (with_reducible refine LeO.bind ?_ (fun _ => ?_))
   | exact impl_areSafe.mono _ _
   | exact impl_firstLeak.mono _ _ _
   | exact impl_isHand.mono _ _
   | exact LeO.none _
   | refine LeO.ite ?_ ?_
   | refine LeO.bind ?_ (fun _ => ?_)
set_option maxHeartbeats 8000000 in
set_option maxRecDepth 100000 in
theorem impl_AreClosed.calls (k : Nat) (A0 : Option Addr) (c0 : Nat) (l0 : List Int) (A1 : Option Addr) (c1 : Nat) (l1 : List Int) (r1 : Bool) (r2 : Int) (w : World) (hr0 : Kd.C (Kd.int .i64) w A0 l0.length l0) (hc0 : l0.length ≤ c0) (hr1 : Kd.C (Kd.int .i64) w A1 l1.length l1) (hc1 : l1.length ≤ c1) (h : impl_AreClosed.f k l0 l1 = some (r1, r2)) :
  Calls Try.prog 23 #[.slice A0 l0.length c0, .slice A1 l1.length c1] w fun e w' => e = .returned (.tuple #[.bool r1, .int .i64 r2]) ∧ Below w.heap.size w w' := by
 have HR0 := jA hr0
 have HC0 := jA hc0
 clear hr0 hc0
 have HR1 := jA hr1
 have HC1 := jA hc1
 clear hr1 hc1
 have HB := jA (Below.refl w.heap.size w)
 have H := h
 unfold impl_AreClosed.f at H
 clear h
 replace H := jC.mp H
 obtain ⟨t567, A30, H⟩ := H
 try dsimp only at H
 have A3 := jA A30
 clear A30
 by_cases c4 : t567 = true
 ·subst c4
  rw [if_pos rfl] at H
  replace H := jC.mp H
  obtain ⟨t568, A50, H⟩ := H
  try dsimp only at H
  have A5 := jA A50
  clear A50
  by_cases c6 : t568 = true
  ·subst c6
   rw [if_pos rfl] at H
   replace H := jC.mp H
   obtain ⟨⟨t569, t570, t571⟩, A70, H⟩ := H
   replace H : (some (!t571, 0)) = some (r1, r2) := H
   have A7 := jA A70
   clear A70
   simp only [jH, jK] at H
   obtain ⟨rfl, rfl⟩ := H
   go_enter Try.func23, Try.ntmps23
   go_wp2_with (first | ((with_reducible refine jG (f := 55) rfl ?_); refine zL (some 10) Try.func55 #[.slice A0 l0.length c0] ?_; (with_reducible refine (impl_areSafe.calls k _ _ l0 true _ ?side1 ?side2 A3.out).mono ?_); (case side1 => repeat (first | exact HR0.out | (with_reducible refine Kd.C_alloc ?_ _) | (with_reducible refine Kd.C_drewN ?_ _) | (with_reducible refine Kd.C_drew ?_))); (case side2 => exact HC0.out); rintro e w8 ⟨rfl, hb⟩; refine ⟨_, rfl, ?_⟩; replace HB := zS0 HB hb; clear hb) | (go_at_call 56; (with_reducible refine (impl_isHand.calls k _ _ l1 true _ ?side1 ?side2 A5.out).mono ?_); (case side1 => exact zs HR1 HB); (case side2 => exact HC1.out); rintro e w' ⟨rfl, ⟨nd, rfl⟩⟩) | ((with_reducible refine jG (f := 57) rfl ?_); refine zL (some 20) Try.func57 #[.slice A0 l0.length c0, .slice A1 l1.length c1] ?_; (with_reducible refine (impl_firstLeak.calls k _ _ l0 _ _ l1 t569 t570 t571 _ ?side1 ?side2 ?side3 ?side4 A7.out).mono ?_); (case side1 => repeat (first | exact HR0.out | exact (Kd.C_below HR0.out (zb0 HB)) | (with_reducible refine Kd.C_alloc ?_ _) | (with_reducible refine Kd.C_drewN ?_ _) | (with_reducible refine Kd.C_drew ?_))); (case side2 => exact HC0.out); (case side3 => repeat (first | exact HR1.out | exact (Kd.C_below HR1.out (zb0 HB)) | (with_reducible refine Kd.C_alloc ?_ _) | (with_reducible refine Kd.C_drewN ?_ _) | (with_reducible refine Kd.C_drew ?_))); (case side4 => exact HC1.out); rintro e w9 ⟨rfl, hb⟩; refine ⟨_, rfl, ?_⟩; replace HB := zS0 HB hb; clear hb))
   go_ret2
   exact ⟨ze, zb0 HB⟩
  ·replace c6 := Bool.eq_false_iff.mpr c6
   subst c6
   rw [if_neg zfalse] at H
   simp only [jH, jK] at H
   obtain ⟨rfl, rfl⟩ := H
   go_enter Try.func23, Try.ntmps23
   go_wp2_with (first | ((with_reducible refine jG (f := 55) rfl ?_); refine zL (some 10) Try.func55 #[.slice A0 l0.length c0] ?_; (with_reducible refine (impl_areSafe.calls k _ _ l0 true _ ?side1 ?side2 A3.out).mono ?_); (case side1 => repeat (first | exact HR0.out | (with_reducible refine Kd.C_alloc ?_ _) | (with_reducible refine Kd.C_drewN ?_ _) | (with_reducible refine Kd.C_drew ?_))); (case side2 => exact HC0.out); rintro e w10 ⟨rfl, hb⟩; refine ⟨_, rfl, ?_⟩; replace HB := zS0 HB hb; clear hb) | (go_at_call 56; (with_reducible refine (impl_isHand.calls k _ _ l1 false _ ?side1 ?side2 A5.out).mono ?_); (case side1 => exact zs HR1 HB); (case side2 => exact HC1.out); rintro e w' ⟨rfl, ⟨nd, rfl⟩⟩))
   go_ret2
   exact ⟨ze, zb0 HB⟩
 ·replace c4 := Bool.eq_false_iff.mpr c4
  subst c4
  rw [if_neg zfalse] at H
  simp only [jH, jK] at H
  obtain ⟨rfl, rfl⟩ := H
  go_enter Try.func23, Try.ntmps23
  go_wp2_with (first | ((with_reducible refine jG (f := 55) rfl ?_); refine zL (some 10) Try.func55 #[.slice A0 l0.length c0] ?_; (with_reducible refine (impl_areSafe.calls k _ _ l0 false _ ?side1 ?side2 A3.out).mono ?_); (case side1 => repeat (first | exact HR0.out | (with_reducible refine Kd.C_alloc ?_ _) | (with_reducible refine Kd.C_drewN ?_ _) | (with_reducible refine Kd.C_drew ?_))); (case side2 => exact HC0.out); rintro e w11 ⟨rfl, hb⟩; refine ⟨_, rfl, ?_⟩; replace HB := zS0 HB hb; clear hb))
  go_ret2
  exact ⟨ze, zb0 HB⟩

/-! ### spec_AreClosed: function 24 -/
def spec_AreClosed.f (k : Nat) (l0 : List Int) (l1 : List Int) : Option (Bool × Int) := (spec_l25Safe.f k l0 l1).bind fun t572 => (if t572 = 0 then ((spec_l25Leak.f k l0 l1).bind fun bt573 => (some (decide (bt573.1 < 0), 0))) else (some (false, t572)))
theorem spec_AreClosed.mono : ∀ a0 a1 k, LeO (spec_AreClosed.f k a0 a1) (spec_AreClosed.f (k + 1) a0 a1) := by
 intro a0 a1 k
 unfold spec_AreClosed.f
 repeat' first
   | (with_reducible exact spec_l25Leak.mono _ _ _)
   | (with_reducible exact spec_l25Safe.mono _ _ _)
   | (with_reducible exact LeO.refl _)
   | (with_reducible exact LeO.none _)
   | (with_reducible refine LeO.ite ?_ ?_)
   | (with_reducible refine LeO.bind ?_ (fun _ => ?_))
   | exact spec_l25Leak.mono _ _ _
   | exact spec_l25Safe.mono _ _ _
   | exact LeO.none _
   | refine LeO.ite ?_ ?_
   | refine LeO.bind ?_ (fun _ => ?_)
set_option maxHeartbeats 8000000 in
set_option maxRecDepth 100000 in
theorem spec_AreClosed.calls (k : Nat) (A0 : Option Addr) (c0 : Nat) (l0 : List Int) (A1 : Option Addr) (c1 : Nat) (l1 : List Int) (r1 : Bool) (r2 : Int) (w : World) (hr0 : Kd.C (Kd.int .i64) w A0 l0.length l0) (hc0 : l0.length ≤ c0) (hr1 : Kd.C (Kd.int .i64) w A1 l1.length l1) (hc1 : l1.length ≤ c1) (h : spec_AreClosed.f k l0 l1 = some (r1, r2)) :
  Calls Try.prog 24 #[.slice A0 l0.length c0, .slice A1 l1.length c1] w fun e w' => e = .returned (.tuple #[.bool r1, .int .i64 r2]) ∧ Below w.heap.size w w' := by
 have HR0 := jA hr0
 have HC0 := jA hc0
 clear hr0 hc0
 have HR1 := jA hr1
 have HC1 := jA hc1
 clear hr1 hc1
 have HB := jA (Below.refl w.heap.size w)
 have H := h
 unfold spec_AreClosed.f at H
 clear h
 replace H := jC.mp H
 obtain ⟨t572, A30, H⟩ := H
 try dsimp only at H
 have A3 := jA A30
 clear A30
 by_cases c4 : t572 = 0
 ·rw [if_pos c4] at H
  have c4b0 : (t572 == 0) = true := beq_iff_eq.mpr c4
  have c4b1 : (t572 != 0) = false := bne_eq_false_iff_eq.mpr c4
  clear c4
  replace H := jC.mp H
  obtain ⟨⟨t573, t574⟩, A50, H⟩ := H
  try dsimp only at H
  have A5 := jA A50
  clear A50
  simp only [jH, jK] at H
  obtain ⟨rfl, rfl⟩ := H
  go_enter Try.func24, Try.ntmps24
  go_wp2_with (first | ((with_reducible refine jG (f := 58) rfl ?_); refine zL (some 11) Try.func58 #[.slice A0 l0.length c0, .slice A1 l1.length c1] ?_; (with_reducible refine (spec_l25Safe.calls k _ _ l0 _ _ l1 t572 _ ?side1 ?side2 ?side3 ?side4 A3.out).mono ?_); (case side1 => repeat (first | exact HR0.out | (with_reducible refine Kd.C_alloc ?_ _) | (with_reducible refine Kd.C_drewN ?_ _) | (with_reducible refine Kd.C_drew ?_))); (case side2 => exact HC0.out); (case side3 => repeat (first | exact HR1.out | (with_reducible refine Kd.C_alloc ?_ _) | (with_reducible refine Kd.C_drewN ?_ _) | (with_reducible refine Kd.C_drew ?_))); (case side4 => exact HC1.out); rintro e w6 ⟨rfl, hb⟩; refine ⟨_, rfl, ?_⟩; replace HB := zS0 HB hb; clear hb) | ((with_reducible refine jG (f := 59) rfl ?_); refine zL (some 18) Try.func59 #[.slice A0 l0.length c0, .slice A1 l1.length c1] ?_; (with_reducible refine (spec_l25Leak.calls k _ _ l0 _ _ l1 t573 t574 _ ?side1 ?side2 ?side3 ?side4 A5.out).mono ?_); (case side1 => exact zs HR0 HB); (case side2 => exact HC0.out); (case side3 => exact zs HR1 HB); (case side4 => exact HC1.out); rintro e w7 ⟨rfl, hb⟩; refine ⟨_, rfl, ?_⟩; replace HB := zS0 HB hb; clear hb))
  go_ret2
  exact ⟨ze, zb0 HB⟩
 ·rw [if_neg c4] at H
  have c4b0 : (t572 == 0) = false := beq_eq_false_iff_ne.mpr c4
  have c4b1 : (t572 != 0) = true := bne_iff_ne.mpr c4
  simp only [jH, jK] at H
  obtain ⟨rfl, rfl⟩ := H
  go_enter Try.func24, Try.ntmps24
  go_wp2_with (first | ((with_reducible refine jG (f := 58) rfl ?_); refine zL (some 11) Try.func58 #[.slice A0 l0.length c0, .slice A1 l1.length c1] ?_; (with_reducible refine (spec_l25Safe.calls k _ _ l0 _ _ l1 t572 _ ?side1 ?side2 ?side3 ?side4 A3.out).mono ?_); (case side1 => repeat (first | exact HR0.out | (with_reducible refine Kd.C_alloc ?_ _) | (with_reducible refine Kd.C_drewN ?_ _) | (with_reducible refine Kd.C_drew ?_))); (case side2 => exact HC0.out); (case side3 => repeat (first | exact HR1.out | (with_reducible refine Kd.C_alloc ?_ _) | (with_reducible refine Kd.C_drewN ?_ _) | (with_reducible refine Kd.C_drew ?_))); (case side4 => exact HC1.out); rintro e w8 ⟨rfl, hb⟩; refine ⟨_, rfl, ?_⟩; replace HB := zS0 HB hb; clear hb))
  go_ret2
  exact ⟨ze, zb0 HB⟩

/-! ### spec_DrawControllerWith: function 25 -/
def spec_DrawControllerWith.f (k : Nat) (l0 : List Int) : Option (Int) := (spec_l01From.f k l0).bind fun bt575 => ((spec_l01Next.f bt575.1 bt575.2.1 bt575.2.2 160).bind fun bt579 => ((spec_l21Good.f k bt575.1 bt579.2.1 bt579.2.2).bind fun bt582 => ((spec_l25Number.f k bt582.1 bt582.2.1 bt582.2.2.1 bt582.2.2.2.1 bt582.2.2.2.2.1 bt582.2.2.2.2.2.1).bind fun t590 => ((spec_l01Pick.f bt575.1 bt582.2.2.2.2.2.2.1 bt582.2.2.2.2.2.2.2 (([bt579.1, t590, 159, 160, (-1)] : List Int))).bind fun bt594 => (some bt594.1)))))
theorem spec_DrawControllerWith.mono : ∀ a0 k, LeO (spec_DrawControllerWith.f k a0) (spec_DrawControllerWith.f (k + 1) a0) := by
 intro a0 k
 unfold spec_DrawControllerWith.f
 repeat' first
   | (with_reducible exact spec_l01From.mono _ _)
   | (with_reducible exact spec_l21Good.mono _ _ _ _)
   | (with_reducible exact spec_l25Number.mono _ _ _ _ _ _ _)
   | (with_reducible exact LeO.refl _)
   | (with_reducible exact LeO.none _)
   | (with_reducible refine LeO.ite ?_ ?_)
   | (with_reducible refine LeO.bind ?_ (fun _ => ?_))
   | exact spec_l01From.mono _ _
   | exact spec_l21Good.mono _ _ _ _
   | exact spec_l25Number.mono _ _ _ _ _ _ _
   | exact LeO.none _
   | refine LeO.ite ?_ ?_
   | refine LeO.bind ?_ (fun _ => ?_)
set_option maxHeartbeats 8000000 in
set_option maxRecDepth 100000 in
theorem spec_DrawControllerWith.calls (k : Nat) (A0 : Option Addr) (c0 : Nat) (l0 : List Int) (r : Int) (w : World) (hr0 : Kd.C (Kd.int .u8) w A0 l0.length l0) (hc0 : l0.length ≤ c0) (h : spec_DrawControllerWith.f k l0 = some r) :
  Calls Try.prog 25 #[.slice A0 l0.length c0] w fun e w' => e = .returned (.int .i64 r) ∧ Below w.heap.size w w' := by
 have HR0 := jA hr0
 have HC0 := jA hc0
 clear hr0 hc0
 have HB := jA (Below.refl w.heap.size w)
 have H := h
 unfold spec_DrawControllerWith.f at H
 clear h
 replace H := jC.mp H
 obtain ⟨⟨t575, t576, t577⟩, A20, H⟩ := H
 try dsimp only at H
 have A2 := jA A20
 clear A20
 replace H := jC.mp H
 obtain ⟨⟨t579, t580, t581⟩, A30, H⟩ := H
 try dsimp only at H
 have A3 := jA A30
 clear A30
 replace H := jC.mp H
 obtain ⟨⟨t582, t583, t584, t585, t586, t587, t588, t589⟩, A40, H⟩ := H
 try dsimp only at H
 have A4 := jA A40
 clear A40
 replace H := jC.mp H
 obtain ⟨t590, A50, H⟩ := H
 try dsimp only at H
 have A5 := jA A50
 clear A50
 obtain ⟨y591, hy591⟩ : ∃ y_ : List Int, y_ = (([t579, t590, 159, 160, (-1)] : List Int)) := ⟨_, rfl⟩
 replace H : ((spec_l01Pick.f t575 t588 t589 y591).bind fun bt594 => (some bt594.1)) = some r := by first | (rw [hy591]; with_reducible exact H) | (have H2_ := (Option.bind_some _ _).symm.trans H; rw [hy591]; with_reducible exact H2_) | (have H2_ := (Option.bind_some _ _).symm.trans H; with_reducible exact H2_) | with_reducible exact H | (rw [hy591]; exact H) | exact H
 have Ny591 := jA hy591
 clear hy591
 replace H := jC.mp H
 obtain ⟨⟨t594, t595, t596⟩, A60, H⟩ := H
 replace H : (some t594) = some r := H
 have A6 := jA A60
 clear A60
 obtain rfl := jN H
 go_enter Try.func25, Try.ntmps25
 go_wp2_with (first | ((with_reducible refine jG (f := 60) rfl ?_); refine zL (some 5) Try.func60 #[.slice A0 l0.length c0] ?_; (with_reducible refine (spec_l01From.calls k _ _ l0 t575 t576 t577 w _ ?side1 ?side2 ?side3 A2.out).mono ?_); (case side1 => exact zr1 HB); (case side2 => exact HR0.out); (case side3 => exact HC0.out); rintro e w7 ⟨g578, rfl, hi, hb, hb2⟩; refine ⟨_, rfl, ?_⟩; replace HB := jA (hb); have HI578 := jA (hi); (try clear hb); (try clear hb2); (try clear hk); (try clear hi)) | ((with_reducible refine jG (f := 62) rfl ?_); refine zL (some 8) Try.func62 #[.pointer (some ⟨g578, 0, none⟩), .int .i64 160] ?_; (with_reducible refine (spec_l01Next.calls g578 t575 t576 t577 160 t579 t580 t581 w _ ?side1 ?side2 A3.out).mono ?_); (case side1 => exact zr3 HI578); (case side2 => exact zr4 HB HI578); rintro e w8 ⟨rfl, hi, hb, hk⟩; refine ⟨_, rfl, ?_⟩; replace HB := jA (hb); replace HI578 := jA (hi); (try clear hb); (try clear hb2); (try clear hk); (try clear hi)) | ((with_reducible refine jG (f := 63) rfl ?_); refine zL (some 10) Try.func63 #[.pointer (some ⟨g578, 0, none⟩)] ?_; (with_reducible refine (spec_l21Good.calls k g578 t575 t580 t581 t582 t583 t584 t585 t586 t587 t588 t589 w _ ?side1 ?side2 A4.out).mono ?_); (case side1 => exact zr3 HI578); (case side2 => exact zr4 HB HI578); rintro e w9 ⟨rfl, hi, hb, hk⟩; refine ⟨_, rfl, ?_⟩; replace HB := jA (hb); replace HI578 := jA (hi); (try clear hb); (try clear hb2); (try clear hk); (try clear hi)) | ((with_reducible refine jG (f := 52) rfl ?_); refine zL (some 11) Try.func52 #[.agg #[.bool t582, .bool t583, .bool t584, .bool t585, .bool t586, .int .i64 t587]] ?_; (with_reducible refine (spec_l25Number.calls k t582 t583 t584 t585 t586 t587 t590 _ A5.out).mono ?_); rintro e w10 ⟨rfl, hb⟩; refine ⟨_, rfl, ?_⟩; replace HB := jA (jY (zr4 HB HI578) hb); replace HI578 := jA (IsS95.below (zr3 HI578) hb); clear hb) | ((with_reducible refine jJ (N := 12) rfl ?_); refine Kd.R_lit (Kd.int .i64) _ 2 ?hg (N := 12) ?hd (xs := ([t579, t590, 159, 160, (-1)] : List Int)) (inner := [.int .i64 t579, .int .i64 t590, .int .i64 159, .int .i64 160, .int .i64 (-1)]) (ok := fun _ => True) (okp := fun _ => True) ?hr ?hp (fun _ hk => hk) trivial (Below.refl _ _) (Nat.le_refl _) (by simp) ?_; (case hd => rfl); (case hg => rfl); (case hr => first | (go_simp; done) | (go_simp; rfl)); (case hp => exact (Reps.one (show Kd.M (Kd.int .i64) _ _ _ t579 [.int .i64 t579] from rfl) (Reps.one (show Kd.M (Kd.int .i64) _ _ _ t590 [.int .i64 t590] from rfl) (Reps.one (show Kd.M (Kd.int .i64) _ _ _ 159 [.int .i64 159] from rfl) (Reps.one (show Kd.M (Kd.int .i64) _ _ _ 160 [.int .i64 160] from rfl) (Reps.one (show Kd.M (Kd.int .i64) _ _ _ (-1) [.int .i64 (-1)] from rfl) (Reps.none _ _))))))); intro v592 w11 ho12 hb hg_ hnew_; clear hg_ hnew_; (first | rw [← Ny591.out] at ho12 | (simp only [Int.reduceToNat] at ho12; rw [← Ny591.out] at ho12)); have HO593 := jA (jX ho12 (jT (zr4 HB HI578))); replace HB := jA (jY (zr4 HB HI578) hb); replace HI578 := jA (IsS95.below (zr3 HI578) hb); clear hb ho12; obtain ⟨Ao13, co13, eo13⟩ := Kd.R_slice HO593.out; subst eo13) | ((with_reducible refine jG (f := 61) rfl ?_); refine zL (some 13) Try.func61 #[.pointer (some ⟨g578, 0, none⟩), .slice Ao13 y591.length co13] ?_; (with_reducible refine (spec_l01Pick.calls g578 t575 t588 t589 _ _ y591 t594 t595 t596 w _ ?side1 ?side2 ?side3 ?side4 ?side5 A6.out).mono ?_); (case side1 => exact zr3 HI578); (case side2 => exact zr4 HB HI578); (case side3 => exact zv HO593); (case side4 => exact (jO HO593.out).2.1); (case side5 => exact far_slice (IsS95.own_ne HI578.out HO593.out (by decide))); rintro e w14 ⟨rfl, hi, hb, hk⟩; refine ⟨_, rfl, ?_⟩; replace HO593 := jA (Kd.R_mono (Kd.R_keep (IsS95.apart (show IsS95 w _ g578 t575 t588 t589 from zr3 HI578) (zo HO593) (by decide)) hk (fun _ h => h.2)) (fun _ h => h.1)); replace HB := jA (hb); replace HI578 := jA (hi); (try clear hb); (try clear hb2); (try clear hk); (try clear hi)))
 go_ret
 exact ⟨ze, zr4 HB HI578⟩

/-! ### spec_DrawNumberOf: function 26 -/
def spec_DrawNumberOf.f (k : Nat) (l0 : List Int) : Option (Bool × Bool × Bool × Bool × Bool × Int) := (spec_l01From.f k l0).bind fun bt598 => ((spec_l21Draw.f k bt598.1 bt598.2.1 bt598.2.2).bind fun bt602 => (some (bt602.1, bt602.2.1, bt602.2.2.1, bt602.2.2.2.1, bt602.2.2.2.2.1, bt602.2.2.2.2.2.1)))
theorem spec_DrawNumberOf.mono : ∀ a0 k, LeO (spec_DrawNumberOf.f k a0) (spec_DrawNumberOf.f (k + 1) a0) := by
 intro a0 k
 unfold spec_DrawNumberOf.f
 repeat' first
   | (with_reducible exact spec_l01From.mono _ _)
   | (with_reducible exact spec_l21Draw.mono _ _ _ _)
   | (with_reducible exact LeO.refl _)
   | (with_reducible exact LeO.none _)
   | (with_reducible refine LeO.ite ?_ ?_)
   | (with_reducible refine LeO.bind ?_ (fun _ => ?_))
   | exact spec_l01From.mono _ _
   | exact spec_l21Draw.mono _ _ _ _
   | exact LeO.none _
   | refine LeO.ite ?_ ?_
   | refine LeO.bind ?_ (fun _ => ?_)
set_option maxHeartbeats 8000000 in
set_option maxRecDepth 100000 in
theorem spec_DrawNumberOf.calls (k : Nat) (A0 : Option Addr) (c0 : Nat) (l0 : List Int) (r1 : Bool) (r2 : Bool) (r3 : Bool) (r4 : Bool) (r5 : Bool) (r6 : Int) (w : World) (hr0 : Kd.C (Kd.int .u8) w A0 l0.length l0) (hc0 : l0.length ≤ c0) (h : spec_DrawNumberOf.f k l0 = some (r1, r2, r3, r4, r5, r6)) :
  Calls Try.prog 26 #[.slice A0 l0.length c0] w fun e w' => e = .returned (.agg #[.bool r1, .bool r2, .bool r3, .bool r4, .bool r5, .int .i64 r6]) ∧ Below w.heap.size w w' := by
 have hu23 := Try.underlying23
 have HR0 := jA hr0
 have HC0 := jA hc0
 clear hr0 hc0
 have HB := jA (Below.refl w.heap.size w)
 have H := h
 unfold spec_DrawNumberOf.f at H
 clear h
 replace H := jC.mp H
 obtain ⟨⟨t598, t599, t600⟩, A20, H⟩ := H
 try dsimp only at H
 have A2 := jA A20
 clear A20
 replace H := jC.mp H
 obtain ⟨⟨t602, t603, t604, t605, t606, t607, t608, t609⟩, A30, H⟩ := H
 try dsimp only at H
 have A3 := jA A30
 clear A30
 simp only [jH, jK] at H
 obtain ⟨rfl, rfl, rfl, rfl, rfl, rfl⟩ := H
 go_enter Try.func26, Try.ntmps26
 go_wp2_with (first | ((with_reducible refine jJ (N := 2) rfl ?_); refine zE 2 #[.bool false, .bool false, .bool false, .bool false, .bool false, .int .i64 0] 23 ?_; intro gb597 hg w4 hbox hb; have BK597 := jA (hbox); have GW597 := zg0 hg HB; have GE597 := zg0 hg HB; replace HB := zS0 HB hb; clear hb hbox hg) | ((with_reducible refine jG (f := 60) rfl ?_); refine zL (some 4) Try.func60 #[.slice A0 l0.length c0] ?_; (with_reducible refine (spec_l01From.calls k _ _ l0 t598 t599 t600 w _ ?side1 ?side2 ?side3 A2.out).mono ?_); (case side1 => exact zr2 HB GE597); (case side2 => exact HR0.out); (case side3 => exact HC0.out); rintro e w5 ⟨g601, rfl, hi, hb, hb2⟩; refine ⟨_, rfl, ?_⟩; replace HB := jA (hb); have HI601 := jA (hi); have NB601_597 := jA (IsS95.ne_blk hi (jU (g := gb597) (o := .cells #[.bool false, .bool false, .bool false, .bool false, .bool false, .int .i64 0] 23 (0, 0)) (zk BK597) hb2) (by decide)); have NB597_601 := jA (Ne.symm (IsS95.ne_blk hi (jU (g := gb597) (o := .cells #[.bool false, .bool false, .bool false, .bool false, .bool false, .int .i64 0] 23 (0, 0)) (zk BK597) hb2) (by decide))); replace BK597 := zB BK597 hb2; (try clear hb); (try clear hb2); (try clear hk); (try clear hi)) | ((with_reducible refine jG (f := 64) rfl ?_); refine zL (some 5) Try.func64 #[.pointer (some ⟨g601, 0, none⟩)] ?_; (with_reducible refine (spec_l21Draw.calls k g601 t598 t599 t600 t602 t603 t604 t605 t606 t607 t608 t609 w _ ?side1 ?side2 A3.out).mono ?_); (case side1 => exact zr5 HI601 NB601_597); (case side2 => exact zr6 HB HI601 GE597); rintro e w6 ⟨rfl, hi, hb, hk⟩; refine ⟨_, rfl, ?_⟩; replace BK597 := zK hk BK597 NB597_601; replace HB := jA (hb); replace HI601 := jA (hi); (try clear hb); (try clear hb2); (try clear hk); (try clear hi); have hnb7 := NB597_601.out; have hnc7 := NB601_597.out; have hcz8 := zc6 BK597))
 refine jQ (results_cell_row rfl _ _ gb597 23 #[.bool t602, .bool t603, .bool t604, .bool t605, .bool t606, .int .i64 t607] (0, 0) _ rfl (zP0 BK597) Try.underlying23 rfl zr) rfl ?_
 exact ⟨ze, zr6 HB HI601 GE597⟩

end Go.Proofs.Ythieppjmjgijfaa.PFnProofs
