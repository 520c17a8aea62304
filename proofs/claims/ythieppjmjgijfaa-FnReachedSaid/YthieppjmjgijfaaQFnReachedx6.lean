/- Functions and contracts that FnReached reaches (7 of 22). -/
import Derived.Test.YthieppjmjgijfaaQFnReachedx5
namespace Go.Proofs.Ythieppjmjgijfaa.PFnReached
open Go.RowKit Go.Proofs.YthieppjmjgijfaaW.PrintWords Go.Proofs.YthieppjmjgijfaaW.PrintLast Go.Proofs.YthieppjmjgijfaaW.PrintMore
attribute [local go_sem] max2_int min2_int max_two min_two max_three min_three max_four min_four   -- for this text's walks alone
set_option linter.unusedVariables false
set_option linter.unusedSimpArgs false

/-! ### spec_IsSound: function 51 -/
def spec_IsSound.f (a0_0 : Bool) (a0_1 : Bool) (a0_2 : Bool) (a0_3 : Bool) (a0_4 : Bool) (a0_5 : Int) : Option (Bool) := if a0_2 = true then (if a0_0 = true then (if a0_1 = true then (if a0_4 = true then (some false) else (if a0_5 > 3 then (some false) else ((spec_l01In.f a0_5 0 4).bind fun t277 => (if t277 = true then (some true) else (some false))))) else (some false)) else (some false)) else ((spec_l01In.f a0_5 0 4).bind fun t278 => (if t278 = true then (some (!a0_3)) else (some false)))
set_option maxHeartbeats 8000000 in
set_option maxRecDepth 100000 in
theorem spec_IsSound.calls (a0_0 : Bool) (a0_1 : Bool) (a0_2 : Bool) (a0_3 : Bool) (a0_4 : Bool) (a0_5 : Int) (r : Bool) (w : World) (h : spec_IsSound.f a0_0 a0_1 a0_2 a0_3 a0_4 a0_5 = some r) :
  Calls Try.prog 51 #[.agg #[.bool a0_0, .bool a0_1, .bool a0_2, .bool a0_3, .bool a0_4, .int .i64 a0_5]] w fun e w' => e = .returned (.bool r) ∧ Below w.heap.size w w' := by
 have hu23 := Try.underlying23
 have HB := jA (Below.refl w.heap.size w)
 have H := h
 unfold spec_IsSound.f at H
 clear h
 by_cases c2 : a0_2 = true
 ·subst c2
  rw [if_pos rfl] at H
  by_cases c3 : a0_0 = true
  ·subst c3
   rw [if_pos rfl] at H
   by_cases c4 : a0_1 = true
   ·subst c4
    rw [if_pos rfl] at H
    by_cases c5 : a0_4 = true
    ·subst c5
     rw [if_pos rfl] at H
     obtain rfl := jN H
     go_enter Try.func51, Try.ntmps51
     go_wp2_with (first | ((with_reducible refine jK (N := 1) rfl ?_); refine zE 1 #[.bool true, .bool true, .bool true, .bool a0_3, .bool true, .int .i64 a0_5] 23 ?_; intro gb276 hg w6 hbox hb; have BK276 := jA (hbox); have GW276 := zg0 hg HB; have GE276 := zg0 hg HB; replace HB := zS0 HB hb; clear hb hbox hg; have hcz7 := zc6 BK276))
     go_ret
     exact ⟨ze, zb1 HB GE276⟩
    ·replace c5 := Bool.eq_false_iff.mpr c5
     subst c5
     rw [if_neg zfalse] at H
     by_cases c8 : a0_5 > 3
     ·rw [if_pos c8] at H
      have c8b0 : decide (3 < a0_5) = true := jJ c8
      clear c8
      obtain rfl := jN H
      go_enter Try.func51, Try.ntmps51
      go_wp2_with (first | ((with_reducible refine jK (N := 1) rfl ?_); refine zE 1 #[.bool true, .bool true, .bool true, .bool a0_3, .bool false, .int .i64 a0_5] 23 ?_; intro gb276 hg w9 hbox hb; have BK276 := jA (hbox); have GW276 := zg0 hg HB; have GE276 := zg0 hg HB; replace HB := zS0 HB hb; clear hb hbox hg; have hcz10 := zc6 BK276))
      go_ret
      exact ⟨ze, zb1 HB GE276⟩
     ·rw [if_neg c8] at H
      have c8b0 : decide (3 < a0_5) = false := jW c8
      clear c8
      replace H := jD.mp H
      obtain ⟨t277, A110, H⟩ := H
      try dsimp only at H
      have A11 := jA A110
      clear A110
      by_cases c12 : t277 = true
      ·subst c12
       rw [if_pos rfl] at H
       obtain rfl := jN H
       go_enter Try.func51, Try.ntmps51
       go_wp2_with (first | ((with_reducible refine jK (N := 1) rfl ?_); refine zE 1 #[.bool true, .bool true, .bool true, .bool a0_3, .bool false, .int .i64 a0_5] 23 ?_; intro gb276 hg w13 hbox hb; have BK276 := jA (hbox); have GW276 := zg0 hg HB; have GE276 := zg0 hg HB; replace HB := zS0 HB hb; clear hb hbox hg; have hcz14 := zc6 BK276) | ((with_reducible refine jH (f := 78) rfl ?_); refine zL (some 26) Try.func78 #[.int .i64 a0_5, .int .i64 0, .int .i64 4] ?_; (with_reducible refine (spec_l01In.calls a0_5 0 4 true _ A11.out).mono ?_); rintro e w' ⟨rfl, ⟨nd, rfl⟩⟩; refine ⟨_, rfl, ?_⟩))
       go_ret
       exact ⟨ze, zb1 HB GE276⟩
      ·replace c12 := Bool.eq_false_iff.mpr c12
       subst c12
       rw [if_neg zfalse] at H
       obtain rfl := jN H
       go_enter Try.func51, Try.ntmps51
       go_wp2_with (first | ((with_reducible refine jK (N := 1) rfl ?_); refine zE 1 #[.bool true, .bool true, .bool true, .bool a0_3, .bool false, .int .i64 a0_5] 23 ?_; intro gb276 hg w15 hbox hb; have BK276 := jA (hbox); have GW276 := zg0 hg HB; have GE276 := zg0 hg HB; replace HB := zS0 HB hb; clear hb hbox hg; have hcz16 := zc6 BK276) | ((with_reducible refine jH (f := 78) rfl ?_); refine zL (some 26) Try.func78 #[.int .i64 a0_5, .int .i64 0, .int .i64 4] ?_; (with_reducible refine (spec_l01In.calls a0_5 0 4 false _ A11.out).mono ?_); rintro e w' ⟨rfl, ⟨nd, rfl⟩⟩; refine ⟨_, rfl, ?_⟩))
       go_ret
       exact ⟨ze, zb1 HB GE276⟩
   ·replace c4 := Bool.eq_false_iff.mpr c4
    subst c4
    rw [if_neg zfalse] at H
    obtain rfl := jN H
    go_enter Try.func51, Try.ntmps51
    go_wp2_with (first | ((with_reducible refine jK (N := 1) rfl ?_); refine zE 1 #[.bool true, .bool false, .bool true, .bool a0_3, .bool a0_4, .int .i64 a0_5] 23 ?_; intro gb276 hg w17 hbox hb; have BK276 := jA (hbox); have GW276 := zg0 hg HB; have GE276 := zg0 hg HB; replace HB := zS0 HB hb; clear hb hbox hg; have hcz18 := zc6 BK276))
    go_ret
    exact ⟨ze, zb1 HB GE276⟩
  ·replace c3 := Bool.eq_false_iff.mpr c3
   subst c3
   rw [if_neg zfalse] at H
   obtain rfl := jN H
   go_enter Try.func51, Try.ntmps51
   go_wp2_with (first | ((with_reducible refine jK (N := 1) rfl ?_); refine zE 1 #[.bool false, .bool a0_1, .bool true, .bool a0_3, .bool a0_4, .int .i64 a0_5] 23 ?_; intro gb276 hg w19 hbox hb; have BK276 := jA (hbox); have GW276 := zg0 hg HB; have GE276 := zg0 hg HB; replace HB := zS0 HB hb; clear hb hbox hg; have hcz20 := zc6 BK276))
   go_ret
   exact ⟨ze, zb1 HB GE276⟩
 ·replace c2 := Bool.eq_false_iff.mpr c2
  subst c2
  rw [if_neg zfalse] at H
  replace H := jD.mp H
  obtain ⟨t278, A210, H⟩ := H
  try dsimp only at H
  have A21 := jA A210
  clear A210
  by_cases c22 : t278 = true
  ·subst c22
   rw [if_pos rfl] at H
   obtain rfl := jN H
   go_enter Try.func51, Try.ntmps51
   go_wp2_with (first | ((with_reducible refine jK (N := 1) rfl ?_); refine zE 1 #[.bool a0_0, .bool a0_1, .bool false, .bool a0_3, .bool a0_4, .int .i64 a0_5] 23 ?_; intro gb276 hg w23 hbox hb; have BK276 := jA (hbox); have GW276 := zg0 hg HB; have GE276 := zg0 hg HB; replace HB := zS0 HB hb; clear hb hbox hg; have hcz24 := zc6 BK276) | ((with_reducible refine jH (f := 78) rfl ?_); refine zL (some 26) Try.func78 #[.int .i64 a0_5, .int .i64 0, .int .i64 4] ?_; (with_reducible refine (spec_l01In.calls a0_5 0 4 true _ A21.out).mono ?_); rintro e w' ⟨rfl, ⟨nd, rfl⟩⟩; refine ⟨_, rfl, ?_⟩))
   go_ret
   exact ⟨ze, zb1 HB GE276⟩
  ·replace c22 := Bool.eq_false_iff.mpr c22
   subst c22
   rw [if_neg zfalse] at H
   obtain rfl := jN H
   go_enter Try.func51, Try.ntmps51
   go_wp2_with (first | ((with_reducible refine jK (N := 1) rfl ?_); refine zE 1 #[.bool a0_0, .bool a0_1, .bool false, .bool a0_3, .bool a0_4, .int .i64 a0_5] 23 ?_; intro gb276 hg w25 hbox hb; have BK276 := jA (hbox); have GW276 := zg0 hg HB; have GE276 := zg0 hg HB; replace HB := zS0 HB hb; clear hb hbox hg; have hcz26 := zc6 BK276) | ((with_reducible refine jH (f := 78) rfl ?_); refine zL (some 26) Try.func78 #[.int .i64 a0_5, .int .i64 0, .int .i64 4] ?_; (with_reducible refine (spec_l01In.calls a0_5 0 4 false _ A21.out).mono ?_); rintro e w' ⟨rfl, ⟨nd, rfl⟩⟩; refine ⟨_, rfl, ?_⟩))
   go_ret
   exact ⟨ze, zb1 HB GE276⟩

/-! ### spec_l01Rises: function 86 -/
def spec_l01Rises.l0 : Nat → List Int → Int → Int → Option (Bool)
 | 0, _, _, _ => none
 | k + 1, x0, x1, x5 => if x5 < (x0.length : Int) then (if 0 ≤ x5 then ((spec_l01In.f (rd x0 x5) 0 (wrap64 (x1 - 1))).bind fun t280 => (if t280 = true then (if x5 > 0 then (if 0 ≤ (wrap64 (x5 - 1)) then (if (wrap64 (x5 - 1)) < (x0.length : Int) then (if (rd x0 x5) ≤ (rd x0 (wrap64 (x5 - 1))) then (some false) else (spec_l01Rises.l0 k x0 x1 (wrap64 (x5 + 1)))) else (none)) else (none)) else (spec_l01Rises.l0 k x0 x1 (wrap64 (x5 + 1)))) else (some false))) else (none)) else (some true)
def spec_l01Rises.f (k : Nat) (l0 : List Int) (a1 : Int) : Option (Bool) := spec_l01Rises.l0 k l0 a1 0
theorem spec_l01Rises.mono_l : ∀ k, (∀ y0 y1 y2, LeO (spec_l01Rises.l0 k y0 y1 y2) (spec_l01Rises.l0 (k + 1) y0 y1 y2))
 | 0 => fun _ _ _ r h => by simp [spec_l01Rises.l0] at h
 | k + 1 => by
  have ih0 := spec_l01Rises.mono_l k
  ·intro y0 y1 y2
   unfold spec_l01Rises.l0
   repeat' first
   | (with_reducible exact ih0 _ _ _)
   | (with_reducible exact LeO.refl _)
   | (with_reducible exact LeO.none _)
   | (with_reducible refine LeO.ite ?_ ?_)
   | (with_reducible refine LeO.bind ?_ (fun _ => ?_))
   | exact ih0 _ _ _
   | exact LeO.none _
   | refine LeO.ite ?_ ?_
   | refine LeO.bind ?_ (fun _ => ?_)
theorem spec_l01Rises.mono : ∀ a0 a1 k, LeO (spec_l01Rises.f k a0 a1) (spec_l01Rises.f (k + 1) a0 a1) := by
 intro a0 a1 k
 have ih0 := spec_l01Rises.mono_l k
 unfold spec_l01Rises.f
 repeat' first
   | (with_reducible exact ih0 _ _ _)
   | (with_reducible exact LeO.refl _)
   | (with_reducible exact LeO.none _)
   | (with_reducible refine LeO.ite ?_ ?_)
   | (with_reducible refine LeO.bind ?_ (fun _ => ?_))
   | exact ih0 _ _ _
   | exact LeO.none _
   | refine LeO.ite ?_ ?_
   | refine LeO.bind ?_ (fun _ => ?_)
set_option maxHeartbeats 8000000 in
set_option maxRecDepth 100000 in
theorem spec_l01Rises.calls (k : Nat) (A0 : Option Addr) (c0 : Nat) (l0 : List Int) (a1 : Int) (r : Bool) (w : World) (hr0 : Kd.C (Kd.int .i64) w A0 l0.length l0) (hc0 : l0.length ≤ c0) (h : spec_l01Rises.f k l0 a1 = some r) :
  Calls Try.prog 86 #[.slice A0 l0.length c0, .int .i64 a1] w fun e w' => e = .returned (.bool r) ∧ Drawn0 w w' := by
 have HR0 := jA hr0
 have HC0 := jA hc0
 clear hr0 hc0
 have H : (spec_l01Rises.l0 k l0 a1 0) = some r := h
 clear h
 have H' := jA H
 clear H
 go_enter Try.func86, Try.ntmps86
 go_wp2
 repeat (go_quiet (fail); try go_wp2)
 go_loopg [5] k (fun kq v5 w' => ∃ (x5_1 : Int), v5 = .int .i64 x5_1 ∧ Aside0 (spec_l01Rises.l0 kq l0 a1 x5_1 = some r) ∧ Aside0 (kq ≤ k) ∧ Drawn0 w w')
 case atStart => exact ⟨(0), zz, H', ⟨Nat.le_refl _⟩, by repeat (first | exact Drawn0.refl _ | apply Drawn0.step)⟩
 case round =>
  clear H'
  try clear p2
  obtain ⟨x5_1, rfl, HA, HK1, ⟨m1, rfl⟩⟩ := hrel
  cases gk with
  | zero => exact absurd HA.out (by simp [spec_l01Rises.l0])
  | succ k1 =>
   have H := HA.out
   clear HA
   simp only [spec_l01Rises.l0] at H
   by_cases c3 : x5_1 < (l0.length : Int)
   ·rw [if_pos c3] at H
    have c3b0 : decide (x5_1 < (l0.length : Int)) = true := jJ c3
    clear c3
    by_cases c4 : 0 ≤ x5_1
    ·rw [if_pos c4] at H
     have c4b0 : decide (0 ≤ x5_1) = true := jJ c4
     clear c4
     replace H := jD.mp H
     obtain ⟨t280, A50, H⟩ := H
     replace H : (if t280 = true then (if x5_1 > 0 then (if 0 ≤ (wrap64 (x5_1 - 1)) then (if (wrap64 (x5_1 - 1)) < (l0.length : Int) then (if (rd l0 x5_1) ≤ (rd l0 (wrap64 (x5_1 - 1))) then (some false) else (spec_l01Rises.l0 k1 l0 a1 (wrap64 (x5_1 + 1)))) else (none)) else (none)) else (spec_l01Rises.l0 k1 l0 a1 (wrap64 (x5_1 + 1)))) else (some false)) = some r := H
     have A5 := jA A50
     clear A50
     by_cases c6 : t280 = true
     ·subst c6
      rw [if_pos rfl] at H
      by_cases c7 : x5_1 > 0
      ·rw [if_pos c7] at H
       have c7b0 : decide (0 < x5_1) = true := jJ c7
       clear c7
       obtain ⟨ji8, hji8⟩ : ∃ j_ : Int, (wrap64 (x5_1 - 1)) = j_ := ⟨_, rfl⟩
       replace H : (if 0 ≤ (ji8) then (if (ji8) < (l0.length : Int) then (if (rd l0 x5_1) ≤ (rd l0 (ji8)) then (some false) else (spec_l01Rises.l0 k1 l0 a1 (wrap64 (x5_1 + 1)))) else (none)) else (none)) = some r := by first | (rw [hji8] at H; exact H) | (simp only [hji8] at H ⊢; exact H)
       (try rw [hji8] at A5)
       have hji8w : (IntKind.i64.wrap (x5_1 - 1)) = ji8 := (i64_w _).trans hji8
       by_cases c9 : 0 ≤ (ji8)
       ·rw [if_pos c9] at H
        have c9b0 : decide (0 ≤ (ji8)) = true := jJ c9
        clear c9
        by_cases c10 : (ji8) < (l0.length : Int)
        ·rw [if_pos c10] at H
         have c10b0 : decide ((ji8) < (l0.length : Int)) = true := jJ c10
         clear c10
         by_cases c11 : (rd l0 x5_1) ≤ (rd l0 (ji8))
         ·rw [if_pos c11] at H
          have c11b0 : decide ((rd l0 x5_1) ≤ (rd l0 (ji8))) = true := jJ c11
          clear c11
          obtain rfl := jN H
          have p279 : 0 ≤ (x5_1 : Int) := jB za
          have q279 : x5_1 < (l0.length : Int) := jB za
          obtain ⟨ad279, e279, hx279_0⟩ := jR HR0.out x5_1 p279 q279
          cases e279
          replace p279 := eq_true p279
          replace q279 := eq_true q279
          have p2799 : 0 ≤ (ji8 : Int) := jB za
          have q2799 : ji8 < (l0.length : Int) := jB za
          obtain ⟨ad2799, e2799, hx2799_0⟩ := jR HR0.out ji8 p2799 q2799
          obtain rfl : ad279 = ad2799 := (by injection e2799)
          replace p2799 := eq_true p2799
          replace q2799 := eq_true q2799
          go_wp2_with (first | (go_at_call 78; (with_reducible refine (spec_l01In.calls (rd l0 x5_1) 0 (wrap64 (a1 - 1)) true _ A5.out).mono ?_); rintro e w' ⟨rfl, ⟨nd, rfl⟩⟩; (first | exact ⟨rfl, _, World.drewN_drewN _ _ _⟩ | exact ⟨rfl, _, Eq.trans (World.drewN_drewN _ _ _) (congrArg (World.drewN _) (Nat.add_assoc _ _ _))⟩ | (have p281 : 0 ≤ (x5_1 : Int) := jB za; have q281 : x5_1 < (l0.length : Int) := jB za; obtain ⟨ad281, e281, hx281_0⟩ := jR HR0.out x5_1 p281 q281; obtain rfl : ad279 = ad281 := (by injection e281); replace p281 := eq_true p281; replace q281 := eq_true q281; have p282 : 0 ≤ ((ji8) : Int) := jB za; have q282 : (ji8) < (l0.length : Int) := jB za; obtain ⟨ad282, e282, hx282_0⟩ := jR HR0.out (ji8) p282 q282; obtain rfl : ad279 = ad282 := (by injection e282); replace p282 := eq_true p282; replace q282 := eq_true q282))))
          repeat (go_quiet (first | (go_at_call 78; (with_reducible refine (spec_l01In.calls (rd l0 x5_1) 0 (wrap64 (a1 - 1)) true _ A5.out).mono ?_); rintro e w' ⟨rfl, ⟨nd, rfl⟩⟩; (first | exact ⟨rfl, _, World.drewN_drewN _ _ _⟩ | exact ⟨rfl, _, Eq.trans (World.drewN_drewN _ _ _) (congrArg (World.drewN _) (Nat.add_assoc _ _ _))⟩ | (have p281 : 0 ≤ (x5_1 : Int) := jB za; have q281 : x5_1 < (l0.length : Int) := jB za; obtain ⟨ad281, e281, hx281_0⟩ := jR HR0.out x5_1 p281 q281; obtain rfl : ad279 = ad281 := (by injection e281); replace p281 := eq_true p281; replace q281 := eq_true q281; have p282 : 0 ≤ ((ji8) : Int) := jB za; have q282 : (ji8) < (l0.length : Int) := jB za; obtain ⟨ad282, e282, hx282_0⟩ := jR HR0.out (ji8) p282 q282; obtain rfl : ad279 = ad282 := (by injection e282); replace p282 := eq_true p282; replace q282 := eq_true q282)))); try go_wp2_with (first | (go_at_call 78; (with_reducible refine (spec_l01In.calls (rd l0 x5_1) 0 (wrap64 (a1 - 1)) true _ A5.out).mono ?_); rintro e w' ⟨rfl, ⟨nd, rfl⟩⟩; (first | exact ⟨rfl, _, World.drewN_drewN _ _ _⟩ | exact ⟨rfl, _, Eq.trans (World.drewN_drewN _ _ _) (congrArg (World.drewN _) (Nat.add_assoc _ _ _))⟩ | (have p281 : 0 ≤ (x5_1 : Int) := jB za; have q281 : x5_1 < (l0.length : Int) := jB za; obtain ⟨ad281, e281, hx281_0⟩ := jR HR0.out x5_1 p281 q281; obtain rfl : ad279 = ad281 := (by injection e281); replace p281 := eq_true p281; replace q281 := eq_true q281; have p282 : 0 ≤ ((ji8) : Int) := jB za; have q282 : (ji8) < (l0.length : Int) := jB za; obtain ⟨ad282, e282, hx282_0⟩ := jR HR0.out (ji8) p282 q282; obtain rfl : ad279 = ad282 := (by injection e282); replace p282 := eq_true p282; replace q282 := eq_true q282)))))
          go_ret
          exact ⟨by first | rfl | (simp; done) | (simp only [← hji8] <;> (first | rfl | simp)) | (simp [*]; done), by repeat (first | exact Drawn0.refl _ | apply Drawn0.step)⟩
         ·rw [if_neg c11] at H
          have c11b0 : decide ((rd l0 x5_1) ≤ (rd l0 (ji8))) = false := jW c11
          clear c11
          have H' := jA H
          clear H
          have p279 : 0 ≤ (x5_1 : Int) := jB za
          have q279 : x5_1 < (l0.length : Int) := jB za
          obtain ⟨ad279, e279, hx279_0⟩ := jR HR0.out x5_1 p279 q279
          cases e279
          replace p279 := eq_true p279
          replace q279 := eq_true q279
          have p2799 : 0 ≤ (ji8 : Int) := jB za
          have q2799 : ji8 < (l0.length : Int) := jB za
          obtain ⟨ad2799, e2799, hx2799_0⟩ := jR HR0.out ji8 p2799 q2799
          obtain rfl : ad279 = ad2799 := (by injection e2799)
          replace p2799 := eq_true p2799
          replace q2799 := eq_true q2799
          go_wp2_with (first | (go_at_call 78; (with_reducible refine (spec_l01In.calls (rd l0 x5_1) 0 (wrap64 (a1 - 1)) true _ A5.out).mono ?_); rintro e w' ⟨rfl, ⟨nd, rfl⟩⟩; (first | exact ⟨rfl, _, World.drewN_drewN _ _ _⟩ | exact ⟨rfl, _, Eq.trans (World.drewN_drewN _ _ _) (congrArg (World.drewN _) (Nat.add_assoc _ _ _))⟩ | (have p281 : 0 ≤ (x5_1 : Int) := jB za; have q281 : x5_1 < (l0.length : Int) := jB za; obtain ⟨ad281, e281, hx281_0⟩ := jR HR0.out x5_1 p281 q281; obtain rfl : ad279 = ad281 := (by injection e281); replace p281 := eq_true p281; replace q281 := eq_true q281; have p282 : 0 ≤ ((ji8) : Int) := jB za; have q282 : (ji8) < (l0.length : Int) := jB za; obtain ⟨ad282, e282, hx282_0⟩ := jR HR0.out (ji8) p282 q282; obtain rfl : ad279 = ad282 := (by injection e282); replace p282 := eq_true p282; replace q282 := eq_true q282))))
          repeat (go_quiet (first | (go_at_call 78; (with_reducible refine (spec_l01In.calls (rd l0 x5_1) 0 (wrap64 (a1 - 1)) true _ A5.out).mono ?_); rintro e w' ⟨rfl, ⟨nd, rfl⟩⟩; (first | exact ⟨rfl, _, World.drewN_drewN _ _ _⟩ | exact ⟨rfl, _, Eq.trans (World.drewN_drewN _ _ _) (congrArg (World.drewN _) (Nat.add_assoc _ _ _))⟩ | (have p281 : 0 ≤ (x5_1 : Int) := jB za; have q281 : x5_1 < (l0.length : Int) := jB za; obtain ⟨ad281, e281, hx281_0⟩ := jR HR0.out x5_1 p281 q281; obtain rfl : ad279 = ad281 := (by injection e281); replace p281 := eq_true p281; replace q281 := eq_true q281; have p282 : 0 ≤ ((ji8) : Int) := jB za; have q282 : (ji8) < (l0.length : Int) := jB za; obtain ⟨ad282, e282, hx282_0⟩ := jR HR0.out (ji8) p282 q282; obtain rfl : ad279 = ad282 := (by injection e282); replace p282 := eq_true p282; replace q282 := eq_true q282)))); try go_wp2_with (first | (go_at_call 78; (with_reducible refine (spec_l01In.calls (rd l0 x5_1) 0 (wrap64 (a1 - 1)) true _ A5.out).mono ?_); rintro e w' ⟨rfl, ⟨nd, rfl⟩⟩; (first | exact ⟨rfl, _, World.drewN_drewN _ _ _⟩ | exact ⟨rfl, _, Eq.trans (World.drewN_drewN _ _ _) (congrArg (World.drewN _) (Nat.add_assoc _ _ _))⟩ | (have p281 : 0 ≤ (x5_1 : Int) := jB za; have q281 : x5_1 < (l0.length : Int) := jB za; obtain ⟨ad281, e281, hx281_0⟩ := jR HR0.out x5_1 p281 q281; obtain rfl : ad279 = ad281 := (by injection e281); replace p281 := eq_true p281; replace q281 := eq_true q281; have p282 : 0 ≤ ((ji8) : Int) := jB za; have q282 : (ji8) < (l0.length : Int) := jB za; obtain ⟨ad282, e282, hx282_0⟩ := jR HR0.out (ji8) p282 q282; obtain rfl : ad279 = ad282 := (by injection e282); replace p282 := eq_true p282; replace q282 := eq_true q282)))))
          go_roundg k1
          case measure => have := HK1.out; omega
          case rel => exact ⟨(wrap64 (x5_1 + 1)), zz, H', ⟨by have := HK1.out; omega⟩, by repeat (first | exact Drawn0.refl _ | apply Drawn0.step)⟩
        ·rw [if_neg c10] at H
         exact absurd H (by simp)
       ·rw [if_neg c9] at H
        exact absurd H (by simp)
      ·rw [if_neg c7] at H
       have c7b0 : decide (0 < x5_1) = false := jW c7
       clear c7
       have H' := jA H
       clear H
       have p279 : 0 ≤ (x5_1 : Int) := jB za
       have q279 : x5_1 < (l0.length : Int) := jB za
       obtain ⟨ad279, e279, hx279_0⟩ := jR HR0.out x5_1 p279 q279
       cases e279
       replace p279 := eq_true p279
       replace q279 := eq_true q279
       go_wp2_with (first | (go_at_call 78; (with_reducible refine (spec_l01In.calls (rd l0 x5_1) 0 (wrap64 (a1 - 1)) true _ A5.out).mono ?_); rintro e w' ⟨rfl, ⟨nd, rfl⟩⟩; (try first | exact ⟨rfl, _, World.drewN_drewN _ _ _⟩ | exact ⟨rfl, _, Eq.trans (World.drewN_drewN _ _ _) (congrArg (World.drewN _) (Nat.add_assoc _ _ _))⟩)))
       repeat (go_quiet (first | (go_at_call 78; (with_reducible refine (spec_l01In.calls (rd l0 x5_1) 0 (wrap64 (a1 - 1)) true _ A5.out).mono ?_); rintro e w' ⟨rfl, ⟨nd, rfl⟩⟩; (try first | exact ⟨rfl, _, World.drewN_drewN _ _ _⟩ | exact ⟨rfl, _, Eq.trans (World.drewN_drewN _ _ _) (congrArg (World.drewN _) (Nat.add_assoc _ _ _))⟩))); try go_wp2_with (first | (go_at_call 78; (with_reducible refine (spec_l01In.calls (rd l0 x5_1) 0 (wrap64 (a1 - 1)) true _ A5.out).mono ?_); rintro e w' ⟨rfl, ⟨nd, rfl⟩⟩; (try first | exact ⟨rfl, _, World.drewN_drewN _ _ _⟩ | exact ⟨rfl, _, Eq.trans (World.drewN_drewN _ _ _) (congrArg (World.drewN _) (Nat.add_assoc _ _ _))⟩))))
       go_roundg k1
       case measure => have := HK1.out; omega
       case rel => exact ⟨(wrap64 (x5_1 + 1)), zz, H', ⟨by have := HK1.out; omega⟩, by repeat (first | exact Drawn0.refl _ | apply Drawn0.step)⟩
     ·replace c6 := Bool.eq_false_iff.mpr c6
      subst c6
      rw [if_neg zfalse] at H
      obtain rfl := jN H
      have p279 : 0 ≤ (x5_1 : Int) := jB za
      have q279 : x5_1 < (l0.length : Int) := jB za
      obtain ⟨ad279, e279, hx279_0⟩ := jR HR0.out x5_1 p279 q279
      cases e279
      replace p279 := eq_true p279
      replace q279 := eq_true q279
      go_wp2_with (first | (go_at_call 78; (with_reducible refine (spec_l01In.calls (rd l0 x5_1) 0 (wrap64 (a1 - 1)) false _ A5.out).mono ?_); rintro e w' ⟨rfl, ⟨nd, rfl⟩⟩; (try first | exact ⟨rfl, _, World.drewN_drewN _ _ _⟩ | exact ⟨rfl, _, Eq.trans (World.drewN_drewN _ _ _) (congrArg (World.drewN _) (Nat.add_assoc _ _ _))⟩)))
      repeat (go_quiet (first | (go_at_call 78; (with_reducible refine (spec_l01In.calls (rd l0 x5_1) 0 (wrap64 (a1 - 1)) false _ A5.out).mono ?_); rintro e w' ⟨rfl, ⟨nd, rfl⟩⟩; (try first | exact ⟨rfl, _, World.drewN_drewN _ _ _⟩ | exact ⟨rfl, _, Eq.trans (World.drewN_drewN _ _ _) (congrArg (World.drewN _) (Nat.add_assoc _ _ _))⟩))); try go_wp2_with (first | (go_at_call 78; (with_reducible refine (spec_l01In.calls (rd l0 x5_1) 0 (wrap64 (a1 - 1)) false _ A5.out).mono ?_); rintro e w' ⟨rfl, ⟨nd, rfl⟩⟩; (try first | exact ⟨rfl, _, World.drewN_drewN _ _ _⟩ | exact ⟨rfl, _, Eq.trans (World.drewN_drewN _ _ _) (congrArg (World.drewN _) (Nat.add_assoc _ _ _))⟩))))
      go_ret
      exact ⟨by first | rfl | (simp; done) | (simp [*]; done), by repeat (first | exact Drawn0.refl _ | apply Drawn0.step)⟩
    ·rw [if_neg c4] at H
     exact absurd H (by simp)
   ·rw [if_neg c3] at H
    have c3b0 : decide (x5_1 < (l0.length : Int)) = false := jW c3
    clear c3
    obtain rfl := jN H
    go_wp2
    repeat (go_quiet (fail); try go_wp2)
    go_ret
    exact ⟨by first | rfl | (simp; done) | (simp [*]; done), by repeat (first | exact Drawn0.refl _ | apply Drawn0.step)⟩

/-! ### spec_l25Code: function 70 -/
def spec_l25Code.f (k : Nat) (a0_0 : Bool) (a0_1 : Bool) (a0_2 : Bool) (a0_3 : Bool) (a0_4 : Bool) (a0_5 : Int) (l1 : List Int) : Option (Int) := (spec_IsSound.f a0_0 a0_1 a0_2 a0_3 a0_4 a0_5).bind fun t284 => (if t284 = true then ((spec_l01Rises.f k l1 10).bind fun t285 => (if t285 = true then (some 0) else (some 1))) else (some 1))
theorem spec_l25Code.mono : ∀ a0 a1 a2 a3 a4 a5 a6 k, LeO (spec_l25Code.f k a0 a1 a2 a3 a4 a5 a6) (spec_l25Code.f (k + 1) a0 a1 a2 a3 a4 a5 a6) := by
 intro a0 a1 a2 a3 a4 a5 a6 k
 unfold spec_l25Code.f
 repeat' first
   | (with_reducible exact spec_l01Rises.mono _ _ _)
   | (with_reducible exact LeO.refl _)
   | (with_reducible exact LeO.none _)
   | (with_reducible refine LeO.ite ?_ ?_)
   | (with_reducible refine LeO.bind ?_ (fun _ => ?_))
   | exact spec_l01Rises.mono _ _ _
   | exact LeO.none _
   | refine LeO.ite ?_ ?_
   | refine LeO.bind ?_ (fun _ => ?_)
set_option maxHeartbeats 8000000 in
set_option maxRecDepth 100000 in
theorem spec_l25Code.calls (k : Nat) (a0_0 : Bool) (a0_1 : Bool) (a0_2 : Bool) (a0_3 : Bool) (a0_4 : Bool) (a0_5 : Int) (A1 : Option Addr) (c1 : Nat) (l1 : List Int) (r : Int) (w : World) (hr1 : Kd.C (Kd.int .i64) w A1 l1.length l1) (hc1 : l1.length ≤ c1) (h : spec_l25Code.f k a0_0 a0_1 a0_2 a0_3 a0_4 a0_5 l1 = some r) :
  Calls Try.prog 70 #[.agg #[.bool a0_0, .bool a0_1, .bool a0_2, .bool a0_3, .bool a0_4, .int .i64 a0_5], .slice A1 l1.length c1] w fun e w' => e = .returned (.int .i64 r) ∧ Below w.heap.size w w' := by
 have hu23 := Try.underlying23
 have HR1 := jA hr1
 have HC1 := jA hc1
 clear hr1 hc1
 have HB := jA (Below.refl w.heap.size w)
 have H := h
 unfold spec_l25Code.f at H
 clear h
 replace H := jD.mp H
 obtain ⟨t284, A30, H⟩ := H
 try dsimp only at H
 have A3 := jA A30
 clear A30
 by_cases c4 : t284 = true
 ·subst c4
  rw [if_pos rfl] at H
  replace H := jD.mp H
  obtain ⟨t285, A50, H⟩ := H
  try dsimp only at H
  have A5 := jA A50
  clear A50
  by_cases c6 : t285 = true
  ·subst c6
   rw [if_pos rfl] at H
   obtain rfl := jN H
   go_enter Try.func70, Try.ntmps70
   go_wp2_with (first | ((with_reducible refine jK (N := 2) rfl ?_); refine zE 2 #[.bool a0_0, .bool a0_1, .bool a0_2, .bool a0_3, .bool a0_4, .int .i64 a0_5] 23 ?_; intro gb283 hg w7 hbox hb; have BK283 := jA (hbox); have GW283 := zg0 hg HB; have GE283 := zg0 hg HB; replace HB := zS0 HB hb; clear hb hbox hg; have hcz8 := zc6 BK283) | ((with_reducible refine jH (f := 51) rfl ?_); refine zL (some 6) Try.func51 #[.agg #[.bool a0_0, .bool a0_1, .bool a0_2, .bool a0_3, .bool a0_4, .int .i64 a0_5]] ?_; (with_reducible refine (spec_IsSound.calls a0_0 a0_1 a0_2 a0_3 a0_4 a0_5 true _ A3.out).mono ?_); rintro e w9 ⟨rfl, hb⟩; refine ⟨_, rfl, ?_⟩; replace BK283 := zB BK283 hb; replace HB := zS1 HB GE283 hb; clear hb) | (go_at_call 86; (with_reducible refine (spec_l01Rises.calls k _ _ l1 10 true _ ?side1 ?side2 A5.out).mono ?_); (case side1 => exact zs HR1 HB); (case side2 => exact HC1.out); rintro e w' ⟨rfl, ⟨nd, rfl⟩⟩))
   go_ret
   exact ⟨ze, zb1 HB GE283⟩
  ·replace c6 := Bool.eq_false_iff.mpr c6
   subst c6
   rw [if_neg zfalse] at H
   obtain rfl := jN H
   go_enter Try.func70, Try.ntmps70
   go_wp2_with (first | ((with_reducible refine jK (N := 2) rfl ?_); refine zE 2 #[.bool a0_0, .bool a0_1, .bool a0_2, .bool a0_3, .bool a0_4, .int .i64 a0_5] 23 ?_; intro gb283 hg w10 hbox hb; have BK283 := jA (hbox); have GW283 := zg0 hg HB; have GE283 := zg0 hg HB; replace HB := zS0 HB hb; clear hb hbox hg; have hcz11 := zc6 BK283) | ((with_reducible refine jH (f := 51) rfl ?_); refine zL (some 6) Try.func51 #[.agg #[.bool a0_0, .bool a0_1, .bool a0_2, .bool a0_3, .bool a0_4, .int .i64 a0_5]] ?_; (with_reducible refine (spec_IsSound.calls a0_0 a0_1 a0_2 a0_3 a0_4 a0_5 true _ A3.out).mono ?_); rintro e w12 ⟨rfl, hb⟩; refine ⟨_, rfl, ?_⟩; replace BK283 := zB BK283 hb; replace HB := zS1 HB GE283 hb; clear hb) | (go_at_call 86; (with_reducible refine (spec_l01Rises.calls k _ _ l1 10 false _ ?side1 ?side2 A5.out).mono ?_); (case side1 => exact zs HR1 HB); (case side2 => exact HC1.out); rintro e w' ⟨rfl, ⟨nd, rfl⟩⟩))
   go_ret
   exact ⟨ze, zb1 HB GE283⟩
 ·replace c4 := Bool.eq_false_iff.mpr c4
  subst c4
  rw [if_neg zfalse] at H
  obtain rfl := jN H
  go_enter Try.func70, Try.ntmps70
  go_wp2_with (first | ((with_reducible refine jK (N := 2) rfl ?_); refine zE 2 #[.bool a0_0, .bool a0_1, .bool a0_2, .bool a0_3, .bool a0_4, .int .i64 a0_5] 23 ?_; intro gb283 hg w13 hbox hb; have BK283 := jA (hbox); have GW283 := zg0 hg HB; have GE283 := zg0 hg HB; replace HB := zS0 HB hb; clear hb hbox hg; have hcz14 := zc6 BK283) | ((with_reducible refine jH (f := 51) rfl ?_); refine zL (some 6) Try.func51 #[.agg #[.bool a0_0, .bool a0_1, .bool a0_2, .bool a0_3, .bool a0_4, .int .i64 a0_5]] ?_; (with_reducible refine (spec_IsSound.calls a0_0 a0_1 a0_2 a0_3 a0_4 a0_5 false _ A3.out).mono ?_); rintro e w15 ⟨rfl, hb⟩; refine ⟨_, rfl, ?_⟩; replace BK283 := zB BK283 hb; replace HB := zS1 HB GE283 hb; clear hb))
  go_ret
  exact ⟨ze, zb1 HB GE283⟩

/-! ### spec_l25With: function 48 -/
def spec_l25With.f (a0 : Int) : Option (Bool × Bool × Bool × Bool × Bool × Int) := some (((Int.tmod a0 2) == 1), ((Int.tmod (wrap64 (Int.tdiv a0 2)) 2) == 1), ((Int.tmod (wrap64 (Int.tdiv a0 4)) 2) == 1), ((Int.tmod (wrap64 (Int.tdiv a0 8)) 2) == 1), ((Int.tmod (wrap64 (Int.tdiv a0 16)) 2) == 1), wrap64 (Int.tdiv a0 32))
set_option maxHeartbeats 8000000 in
set_option maxRecDepth 100000 in
theorem spec_l25With.calls (a0 : Int) (r1 : Bool) (r2 : Bool) (r3 : Bool) (r4 : Bool) (r5 : Bool) (r6 : Int) (w : World) (h : spec_l25With.f a0 = some (r1, r2, r3, r4, r5, r6)) :
  Calls Try.prog 48 #[.int .i64 a0] w fun e w' => e = .returned (.agg #[.bool r1, .bool r2, .bool r3, .bool r4, .bool r5, .int .i64 r6]) ∧ Below w.heap.size w w' := by
 have hu23 := Try.underlying23
 have HB := jA (Below.refl w.heap.size w)
 have H := h
 unfold spec_l25With.f at H
 clear h
 simp only [jI, jM] at H
 obtain ⟨rfl, rfl, rfl, rfl, rfl, rfl⟩ := H
 go_enter Try.func48, Try.ntmps48
 go_wp2_with (first | ((with_reducible refine jK (N := 2) rfl ?_); refine zE 2 #[.bool false, .bool false, .bool false, .bool false, .bool false, .int .i64 0] 23 ?_; intro gb286 hg w2 hbox hb; have BK286 := jA (hbox); have GW286 := zg0 hg HB; have GE286 := zg0 hg HB; replace HB := zS0 HB hb; clear hb hbox hg; have hcz3 := zc6 BK286))
 refine jT (results_cell_row rfl _ _ gb286 23 #[.bool ((Int.tmod a0 2) == 1), .bool ((Int.tmod (wrap64 (Int.tdiv a0 2)) 2) == 1), .bool ((Int.tmod (wrap64 (Int.tdiv a0 4)) 2) == 1), .bool ((Int.tmod (wrap64 (Int.tdiv a0 8)) 2) == 1), .bool ((Int.tmod (wrap64 (Int.tdiv a0 16)) 2) == 1), .int .i64 (wrap64 (Int.tdiv a0 32))] (0, 0) _ rfl (zP0 BK286) Try.underlying23 rfl zr) rfl ?_
 exact ⟨ze, zb1 HB GE286⟩

/-! ### spec_l21Off: function 91 -/
def spec_l21Off.f (a0_0 : Bool) (a0_1 : Bool) (a0_2 : Bool) (a0_3 : Bool) (a0_4 : Bool) (a0_5 : Int) : Option (Bool × Bool × Bool × Bool × Bool × Int) := some (a0_0, a0_1, false, false, a0_4, a0_5)
set_option maxHeartbeats 8000000 in
set_option maxRecDepth 100000 in
theorem spec_l21Off.calls (a0_0 : Bool) (a0_1 : Bool) (a0_2 : Bool) (a0_3 : Bool) (a0_4 : Bool) (a0_5 : Int) (r1 : Bool) (r2 : Bool) (r3 : Bool) (r4 : Bool) (r5 : Bool) (r6 : Int) (w : World) (h : spec_l21Off.f a0_0 a0_1 a0_2 a0_3 a0_4 a0_5 = some (r1, r2, r3, r4, r5, r6)) :
  Calls Try.prog 91 #[.agg #[.bool a0_0, .bool a0_1, .bool a0_2, .bool a0_3, .bool a0_4, .int .i64 a0_5]] w fun e w' => e = .returned (.agg #[.bool r1, .bool r2, .bool r3, .bool r4, .bool r5, .int .i64 r6]) ∧ Below w.heap.size w w' := by
 have hu23 := Try.underlying23
 have HB := jA (Below.refl w.heap.size w)
 have H := h
 unfold spec_l21Off.f at H
 clear h
 simp only [jI, jM] at H
 obtain ⟨rfl, rfl, rfl, rfl, rfl, rfl⟩ := H
 go_enter Try.func91, Try.ntmps91
 go_wp2_with (first | ((with_reducible refine jK (N := 1) rfl ?_); refine zE 1 #[.bool a0_0, .bool a0_1, .bool a0_2, .bool a0_3, .bool a0_4, .int .i64 a0_5] 23 ?_; intro gb287 hg w2 hbox hb; have BK287 := jA (hbox); have GW287 := zg0 hg HB; have GE287 := zg0 hg HB; replace HB := zS0 HB hb; clear hb hbox hg) | ((with_reducible refine jK (N := 2) rfl ?_); refine zE 2 #[.bool false, .bool false, .bool false, .bool false, .bool false, .int .i64 0] 23 ?_; intro gb288 hg w3 hbox hb; have BK288 := jA (hbox); have GW288 := zg1 hg HB GE287; have GE288 := zg1 hg HB GE287; replace HB := zS1 HB GE287 hb; have NB287_288 := zn hg BK287; replace BK287 := zB BK287 hb; have NB288_287 := jA NB287_288.out.symm; clear hb hbox hg; have hnb4 := NB287_288.out; have hnc4 := NB288_287.out; have hcz5 := zc6 BK287; have hcz6 := zc6 BK288))
 refine jT (results_cell_row rfl _ _ gb288 23 #[.bool a0_0, .bool a0_1, .bool false, .bool false, .bool a0_4, .int .i64 a0_5] (0, 0) _ rfl (zP1 BK288 NB288_287) Try.underlying23 rfl zr) rfl ?_
 exact ⟨ze, zb2 HB GE287 GE288⟩

end Go.Proofs.Ythieppjmjgijfaa.PFnReached
