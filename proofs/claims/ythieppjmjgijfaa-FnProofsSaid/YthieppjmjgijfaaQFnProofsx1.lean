/- Functions and contracts that FnProofs reaches (2 of 22). -/
import Derived.Test.YthieppjmjgijfaaQFnProofsx0
namespace Go.Proofs.Ythieppjmjgijfaa.PFnProofs
open Go.RowKit Go.Proofs.YthieppjmjgijfaaW.PrintWords Go.Proofs.YthieppjmjgijfaaW.PrintLast Go.Proofs.YthieppjmjgijfaaW.PrintMore
attribute [local go_sem] max2_int min2_int max_two min_two max_three min_three max_four min_four   -- for this text's walks alone
set_option linter.unusedVariables false
set_option linter.unusedSimpArgs false

/-! ### impl_IsSound: function 27 -/
def impl_IsSound.f (a0_0 : Bool) (a0_1 : Bool) (a0_2 : Bool) (a0_3 : Bool) (a0_4 : Bool) (a0_5 : Int) : Option (Bool) := (impl_within.f a0_5 0 4).bind fun t122 => (if t122 = true then (if a0_3 = true then (if a0_2 = true then (if a0_0 = true then (if a0_1 = true then (if a0_4 = true then (some false) else (some (decide (a0_5 ≤ 3)))) else (some false)) else (some false)) else (some false)) else (if a0_2 = true then (if a0_0 = true then (if a0_1 = true then (if a0_4 = true then (some false) else (some (decide (a0_5 ≤ 3)))) else (some false)) else (some false)) else (some true))) else (some false))
set_option maxHeartbeats 8000000 in
set_option maxRecDepth 100000 in
theorem impl_IsSound.calls (a0_0 : Bool) (a0_1 : Bool) (a0_2 : Bool) (a0_3 : Bool) (a0_4 : Bool) (a0_5 : Int) (r : Bool) (w : World) (h : impl_IsSound.f a0_0 a0_1 a0_2 a0_3 a0_4 a0_5 = some r) :
  Calls Try.prog 27 #[.agg #[.bool a0_0, .bool a0_1, .bool a0_2, .bool a0_3, .bool a0_4, .int .i64 a0_5]] w fun e w' => e = .returned (.bool r) ∧ Below w.heap.size w w' := by
 have hu23 := Try.underlying23
 have HB := jA (Below.refl w.heap.size w)
 have H := h
 unfold impl_IsSound.f at H
 clear h
 replace H := jC.mp H
 obtain ⟨t122, A20, H⟩ := H
 try dsimp only at H
 have A2 := jA A20
 clear A20
 by_cases c3 : t122 = true
 ·subst c3
  rw [if_pos rfl] at H
  by_cases c4 : a0_3 = true
  ·subst c4
   rw [if_pos rfl] at H
   by_cases c5 : a0_2 = true
   ·subst c5
    rw [if_pos rfl] at H
    by_cases c6 : a0_0 = true
    ·subst c6
     rw [if_pos rfl] at H
     by_cases c7 : a0_1 = true
     ·subst c7
      rw [if_pos rfl] at H
      by_cases c8 : a0_4 = true
      ·subst c8
       rw [if_pos rfl] at H
       obtain rfl := jN H
       go_enter Try.func27, Try.ntmps27
       go_wp2_with (first | ((with_reducible refine jJ (N := 1) rfl ?_); refine zE 1 #[.bool true, .bool true, .bool true, .bool true, .bool true, .int .i64 a0_5] 23 ?_; intro gb121 hg w9 hbox hb; have BK121 := jA (hbox); have GW121 := zg0 hg HB; have GE121 := zg0 hg HB; replace HB := zS0 HB hb; clear hb hbox hg; have hcz10 := zc6 BK121) | ((with_reducible refine jG (f := 65) rfl ?_); refine zL (some 5) Try.func65 #[.int .i64 a0_5, .int .i64 0, .int .i64 4] ?_; (with_reducible refine (impl_within.calls a0_5 0 4 true _ A2.out).mono ?_); rintro e w' ⟨rfl, ⟨nd, rfl⟩⟩; refine ⟨_, rfl, ?_⟩))
       go_ret
       exact ⟨ze, zb1 HB GE121⟩
      ·replace c8 := Bool.eq_false_iff.mpr c8
       subst c8
       rw [if_neg zfalse] at H
       obtain rfl := jN H
       go_enter Try.func27, Try.ntmps27
       go_wp2_with (first | ((with_reducible refine jJ (N := 1) rfl ?_); refine zE 1 #[.bool true, .bool true, .bool true, .bool true, .bool false, .int .i64 a0_5] 23 ?_; intro gb121 hg w11 hbox hb; have BK121 := jA (hbox); have GW121 := zg0 hg HB; have GE121 := zg0 hg HB; replace HB := zS0 HB hb; clear hb hbox hg; have hcz12 := zc6 BK121) | ((with_reducible refine jG (f := 65) rfl ?_); refine zL (some 5) Try.func65 #[.int .i64 a0_5, .int .i64 0, .int .i64 4] ?_; (with_reducible refine (impl_within.calls a0_5 0 4 true _ A2.out).mono ?_); rintro e w' ⟨rfl, ⟨nd, rfl⟩⟩; refine ⟨_, rfl, ?_⟩))
       go_ret
       exact ⟨ze, zb1 HB GE121⟩
     ·replace c7 := Bool.eq_false_iff.mpr c7
      subst c7
      rw [if_neg zfalse] at H
      obtain rfl := jN H
      go_enter Try.func27, Try.ntmps27
      go_wp2_with (first | ((with_reducible refine jJ (N := 1) rfl ?_); refine zE 1 #[.bool true, .bool false, .bool true, .bool true, .bool a0_4, .int .i64 a0_5] 23 ?_; intro gb121 hg w13 hbox hb; have BK121 := jA (hbox); have GW121 := zg0 hg HB; have GE121 := zg0 hg HB; replace HB := zS0 HB hb; clear hb hbox hg; have hcz14 := zc6 BK121) | ((with_reducible refine jG (f := 65) rfl ?_); refine zL (some 5) Try.func65 #[.int .i64 a0_5, .int .i64 0, .int .i64 4] ?_; (with_reducible refine (impl_within.calls a0_5 0 4 true _ A2.out).mono ?_); rintro e w' ⟨rfl, ⟨nd, rfl⟩⟩; refine ⟨_, rfl, ?_⟩))
      go_ret
      exact ⟨ze, zb1 HB GE121⟩
    ·replace c6 := Bool.eq_false_iff.mpr c6
     subst c6
     rw [if_neg zfalse] at H
     obtain rfl := jN H
     go_enter Try.func27, Try.ntmps27
     go_wp2_with (first | ((with_reducible refine jJ (N := 1) rfl ?_); refine zE 1 #[.bool false, .bool a0_1, .bool true, .bool true, .bool a0_4, .int .i64 a0_5] 23 ?_; intro gb121 hg w15 hbox hb; have BK121 := jA (hbox); have GW121 := zg0 hg HB; have GE121 := zg0 hg HB; replace HB := zS0 HB hb; clear hb hbox hg; have hcz16 := zc6 BK121) | ((with_reducible refine jG (f := 65) rfl ?_); refine zL (some 5) Try.func65 #[.int .i64 a0_5, .int .i64 0, .int .i64 4] ?_; (with_reducible refine (impl_within.calls a0_5 0 4 true _ A2.out).mono ?_); rintro e w' ⟨rfl, ⟨nd, rfl⟩⟩; refine ⟨_, rfl, ?_⟩))
     go_ret
     exact ⟨ze, zb1 HB GE121⟩
   ·replace c5 := Bool.eq_false_iff.mpr c5
    subst c5
    rw [if_neg zfalse] at H
    obtain rfl := jN H
    go_enter Try.func27, Try.ntmps27
    go_wp2_with (first | ((with_reducible refine jJ (N := 1) rfl ?_); refine zE 1 #[.bool a0_0, .bool a0_1, .bool false, .bool true, .bool a0_4, .int .i64 a0_5] 23 ?_; intro gb121 hg w17 hbox hb; have BK121 := jA (hbox); have GW121 := zg0 hg HB; have GE121 := zg0 hg HB; replace HB := zS0 HB hb; clear hb hbox hg; have hcz18 := zc6 BK121) | ((with_reducible refine jG (f := 65) rfl ?_); refine zL (some 5) Try.func65 #[.int .i64 a0_5, .int .i64 0, .int .i64 4] ?_; (with_reducible refine (impl_within.calls a0_5 0 4 true _ A2.out).mono ?_); rintro e w' ⟨rfl, ⟨nd, rfl⟩⟩; refine ⟨_, rfl, ?_⟩))
    go_ret
    exact ⟨ze, zb1 HB GE121⟩
  ·replace c4 := Bool.eq_false_iff.mpr c4
   subst c4
   rw [if_neg zfalse] at H
   by_cases c19 : a0_2 = true
   ·subst c19
    rw [if_pos rfl] at H
    by_cases c20 : a0_0 = true
    ·subst c20
     rw [if_pos rfl] at H
     by_cases c21 : a0_1 = true
     ·subst c21
      rw [if_pos rfl] at H
      by_cases c22 : a0_4 = true
      ·subst c22
       rw [if_pos rfl] at H
       obtain rfl := jN H
       go_enter Try.func27, Try.ntmps27
       go_wp2_with (first | ((with_reducible refine jJ (N := 1) rfl ?_); refine zE 1 #[.bool true, .bool true, .bool true, .bool false, .bool true, .int .i64 a0_5] 23 ?_; intro gb121 hg w23 hbox hb; have BK121 := jA (hbox); have GW121 := zg0 hg HB; have GE121 := zg0 hg HB; replace HB := zS0 HB hb; clear hb hbox hg; have hcz24 := zc6 BK121) | ((with_reducible refine jG (f := 65) rfl ?_); refine zL (some 5) Try.func65 #[.int .i64 a0_5, .int .i64 0, .int .i64 4] ?_; (with_reducible refine (impl_within.calls a0_5 0 4 true _ A2.out).mono ?_); rintro e w' ⟨rfl, ⟨nd, rfl⟩⟩; refine ⟨_, rfl, ?_⟩))
       go_ret
       exact ⟨ze, zb1 HB GE121⟩
      ·replace c22 := Bool.eq_false_iff.mpr c22
       subst c22
       rw [if_neg zfalse] at H
       obtain rfl := jN H
       go_enter Try.func27, Try.ntmps27
       go_wp2_with (first | ((with_reducible refine jJ (N := 1) rfl ?_); refine zE 1 #[.bool true, .bool true, .bool true, .bool false, .bool false, .int .i64 a0_5] 23 ?_; intro gb121 hg w25 hbox hb; have BK121 := jA (hbox); have GW121 := zg0 hg HB; have GE121 := zg0 hg HB; replace HB := zS0 HB hb; clear hb hbox hg; have hcz26 := zc6 BK121) | ((with_reducible refine jG (f := 65) rfl ?_); refine zL (some 5) Try.func65 #[.int .i64 a0_5, .int .i64 0, .int .i64 4] ?_; (with_reducible refine (impl_within.calls a0_5 0 4 true _ A2.out).mono ?_); rintro e w' ⟨rfl, ⟨nd, rfl⟩⟩; refine ⟨_, rfl, ?_⟩))
       go_ret
       exact ⟨ze, zb1 HB GE121⟩
     ·replace c21 := Bool.eq_false_iff.mpr c21
      subst c21
      rw [if_neg zfalse] at H
      obtain rfl := jN H
      go_enter Try.func27, Try.ntmps27
      go_wp2_with (first | ((with_reducible refine jJ (N := 1) rfl ?_); refine zE 1 #[.bool true, .bool false, .bool true, .bool false, .bool a0_4, .int .i64 a0_5] 23 ?_; intro gb121 hg w27 hbox hb; have BK121 := jA (hbox); have GW121 := zg0 hg HB; have GE121 := zg0 hg HB; replace HB := zS0 HB hb; clear hb hbox hg; have hcz28 := zc6 BK121) | ((with_reducible refine jG (f := 65) rfl ?_); refine zL (some 5) Try.func65 #[.int .i64 a0_5, .int .i64 0, .int .i64 4] ?_; (with_reducible refine (impl_within.calls a0_5 0 4 true _ A2.out).mono ?_); rintro e w' ⟨rfl, ⟨nd, rfl⟩⟩; refine ⟨_, rfl, ?_⟩))
      go_ret
      exact ⟨ze, zb1 HB GE121⟩
    ·replace c20 := Bool.eq_false_iff.mpr c20
     subst c20
     rw [if_neg zfalse] at H
     obtain rfl := jN H
     go_enter Try.func27, Try.ntmps27
     go_wp2_with (first | ((with_reducible refine jJ (N := 1) rfl ?_); refine zE 1 #[.bool false, .bool a0_1, .bool true, .bool false, .bool a0_4, .int .i64 a0_5] 23 ?_; intro gb121 hg w29 hbox hb; have BK121 := jA (hbox); have GW121 := zg0 hg HB; have GE121 := zg0 hg HB; replace HB := zS0 HB hb; clear hb hbox hg; have hcz30 := zc6 BK121) | ((with_reducible refine jG (f := 65) rfl ?_); refine zL (some 5) Try.func65 #[.int .i64 a0_5, .int .i64 0, .int .i64 4] ?_; (with_reducible refine (impl_within.calls a0_5 0 4 true _ A2.out).mono ?_); rintro e w' ⟨rfl, ⟨nd, rfl⟩⟩; refine ⟨_, rfl, ?_⟩))
     go_ret
     exact ⟨ze, zb1 HB GE121⟩
   ·replace c19 := Bool.eq_false_iff.mpr c19
    subst c19
    rw [if_neg zfalse] at H
    obtain rfl := jN H
    go_enter Try.func27, Try.ntmps27
    go_wp2_with (first | ((with_reducible refine jJ (N := 1) rfl ?_); refine zE 1 #[.bool a0_0, .bool a0_1, .bool false, .bool false, .bool a0_4, .int .i64 a0_5] 23 ?_; intro gb121 hg w31 hbox hb; have BK121 := jA (hbox); have GW121 := zg0 hg HB; have GE121 := zg0 hg HB; replace HB := zS0 HB hb; clear hb hbox hg; have hcz32 := zc6 BK121) | ((with_reducible refine jG (f := 65) rfl ?_); refine zL (some 5) Try.func65 #[.int .i64 a0_5, .int .i64 0, .int .i64 4] ?_; (with_reducible refine (impl_within.calls a0_5 0 4 true _ A2.out).mono ?_); rintro e w' ⟨rfl, ⟨nd, rfl⟩⟩; refine ⟨_, rfl, ?_⟩))
    go_ret
    exact ⟨ze, zb1 HB GE121⟩
 ·replace c3 := Bool.eq_false_iff.mpr c3
  subst c3
  rw [if_neg zfalse] at H
  obtain rfl := jN H
  go_enter Try.func27, Try.ntmps27
  go_wp2_with (first | ((with_reducible refine jJ (N := 1) rfl ?_); refine zE 1 #[.bool a0_0, .bool a0_1, .bool a0_2, .bool a0_3, .bool a0_4, .int .i64 a0_5] 23 ?_; intro gb121 hg w33 hbox hb; have BK121 := jA (hbox); have GW121 := zg0 hg HB; have GE121 := zg0 hg HB; replace HB := zS0 HB hb; clear hb hbox hg; have hcz34 := zc6 BK121) | ((with_reducible refine jG (f := 65) rfl ?_); refine zL (some 5) Try.func65 #[.int .i64 a0_5, .int .i64 0, .int .i64 4] ?_; (with_reducible refine (impl_within.calls a0_5 0 4 false _ A2.out).mono ?_); rintro e w' ⟨rfl, ⟨nd, rfl⟩⟩; refine ⟨_, rfl, ?_⟩))
  go_ret
  exact ⟨ze, zb1 HB GE121⟩

/-! ### impl_controllerWith: function 50 -/
def impl_controllerWith.f (a0 : Int) : Option (Bool × Bool × Bool × Bool × Bool × Int) := some (((Go.bits .and .i64 a0 1) != 0), ((Go.bits .and .i64 a0 2) != 0), ((Go.bits .and .i64 a0 4) != 0), ((Go.bits .and .i64 a0 8) != 0), ((Go.bits .and .i64 a0 16) != 0), wrap64 (Int.tdiv a0 32))
set_option maxHeartbeats 8000000 in
set_option maxRecDepth 100000 in
theorem impl_controllerWith.calls (a0 : Int) (r1 : Bool) (r2 : Bool) (r3 : Bool) (r4 : Bool) (r5 : Bool) (r6 : Int) (w : World) (h : impl_controllerWith.f a0 = some (r1, r2, r3, r4, r5, r6)) :
  Calls Try.prog 50 #[.int .i64 a0] w fun e w' => e = .returned (.agg #[.bool r1, .bool r2, .bool r3, .bool r4, .bool r5, .int .i64 r6]) ∧ Below w.heap.size w w' := by
 have hu23 := Try.underlying23
 have HB := jA (Below.refl w.heap.size w)
 have H := h
 unfold impl_controllerWith.f at H
 clear h
 simp only [jH, jK] at H
 obtain ⟨rfl, rfl, rfl, rfl, rfl, rfl⟩ := H
 go_enter Try.func50, Try.ntmps50
 go_wp2_with (first | ((with_reducible refine jJ (N := 2) rfl ?_); refine zE 2 #[.bool false, .bool false, .bool false, .bool false, .bool false, .int .i64 0] 23 ?_; intro gb123 hg w2 hbox hb; have BK123 := jA (hbox); have GW123 := zg0 hg HB; have GE123 := zg0 hg HB; replace HB := zS0 HB hb; clear hb hbox hg; have hcz3 := zc6 BK123))
 refine jQ (results_cell_row rfl _ _ gb123 23 #[.bool ((Go.bits .and .i64 a0 1) != 0), .bool ((Go.bits .and .i64 a0 2) != 0), .bool ((Go.bits .and .i64 a0 4) != 0), .bool ((Go.bits .and .i64 a0 8) != 0), .bool ((Go.bits .and .i64 a0 16) != 0), .int .i64 (wrap64 (Int.tdiv a0 32))] (0, 0) _ rfl (zP0 BK123) Try.underlying23 rfl zr) rfl ?_
 exact ⟨ze, zb1 HB GE123⟩

/-! ### impl_isNumber: function 49 -/
def impl_isNumber.f (a0 : Int) : Option (Bool) := (impl_within.f a0 0 159).bind fun t124 => (if t124 = true then ((impl_controllerWith.f a0).bind fun bt125 => ((impl_IsSound.f bt125.1 bt125.2.1 bt125.2.2.1 bt125.2.2.2.1 bt125.2.2.2.2.1 bt125.2.2.2.2.2).bind fun t131 => (some t131))) else (some false))
set_option maxHeartbeats 8000000 in
set_option maxRecDepth 100000 in
theorem impl_isNumber.calls (a0 : Int) (r : Bool) (w : World) (h : impl_isNumber.f a0 = some r) :
  Calls Try.prog 49 #[.int .i64 a0] w fun e w' => e = .returned (.bool r) ∧ Below w.heap.size w w' := by
 have HB := jA (Below.refl w.heap.size w)
 have H := h
 unfold impl_isNumber.f at H
 clear h
 replace H := jC.mp H
 obtain ⟨t124, A20, H⟩ := H
 try dsimp only at H
 have A2 := jA A20
 clear A20
 by_cases c3 : t124 = true
 ·subst c3
  rw [if_pos rfl] at H
  replace H := jC.mp H
  obtain ⟨⟨t125, t126, t127, t128, t129, t130⟩, A40, H⟩ := H
  try dsimp only at H
  have A4 := jA A40
  clear A40
  replace H := jC.mp H
  obtain ⟨t131, A50, H⟩ := H
  replace H : (some t131) = some r := H
  have A5 := jA A50
  clear A50
  obtain rfl := jN H
  go_enter Try.func49, Try.ntmps49
  go_wp2_with (first | ((with_reducible refine jG (f := 65) rfl ?_); refine zL (some 4) Try.func65 #[.int .i64 a0, .int .i64 0, .int .i64 159] ?_; (with_reducible refine (impl_within.calls a0 0 159 true _ A2.out).mono ?_); rintro e w' ⟨rfl, ⟨nd, rfl⟩⟩; refine ⟨_, rfl, ?_⟩) | (go_at_call 50; (with_reducible refine (impl_controllerWith.calls a0 t125 t126 t127 t128 t129 t130 _ A4.out).mono ?_); rintro e w6 ⟨rfl, hb⟩; replace HB := zS0 HB hb; (try clear hb); (try clear hb2); (try clear hk); (try clear hi)) | (go_at_call 27; (with_reducible refine (impl_IsSound.calls t125 t126 t127 t128 t129 t130 t131 _ A5.out).mono ?_); rintro e w7 ⟨rfl, hb⟩; replace HB := zS0 HB hb; (try clear hb); (try clear hb2); (try clear hk); (try clear hi)))
  go_ret
  exact ⟨ze, zb0 HB⟩
 ·replace c3 := Bool.eq_false_iff.mpr c3
  subst c3
  rw [if_neg zfalse] at H
  obtain rfl := jN H
  go_enter Try.func49, Try.ntmps49
  go_wp2_with (first | ((with_reducible refine jG (f := 65) rfl ?_); refine zL (some 4) Try.func65 #[.int .i64 a0, .int .i64 0, .int .i64 159] ?_; (with_reducible refine (impl_within.calls a0 0 159 false _ A2.out).mono ?_); rintro e w' ⟨rfl, ⟨nd, rfl⟩⟩; refine ⟨_, rfl, ?_⟩))
  go_ret
  exact ⟨ze, zb0 HB⟩

/-! ### impl_ControllerWith: function 14 -/
def impl_ControllerWith.f (a0 : Int) : Option (Bool × Bool × Bool × Bool × Bool × Int × Int) := (impl_isNumber.f a0).bind fun t133 => (if t133 = true then ((impl_controllerWith.f a0).bind fun bt134 => (some (bt134.1, bt134.2.1, bt134.2.2.1, bt134.2.2.2.1, bt134.2.2.2.2.1, bt134.2.2.2.2.2, 0))) else (some (false, false, false, false, false, 0, 2)))
set_option maxHeartbeats 8000000 in
set_option maxRecDepth 100000 in
theorem impl_ControllerWith.calls (a0 : Int) (r1 : Bool) (r2 : Bool) (r3 : Bool) (r4 : Bool) (r5 : Bool) (r6 : Int) (r7 : Int) (w : World) (h : impl_ControllerWith.f a0 = some (r1, r2, r3, r4, r5, r6, r7)) :
  Calls Try.prog 14 #[.int .i64 a0] w fun e w' => e = .returned (.tuple #[.agg #[.bool r1, .bool r2, .bool r3, .bool r4, .bool r5, .int .i64 r6], .int .i64 r7]) ∧ Below w.heap.size w w' := by
 have hu23 := Try.underlying23
 have HB := jA (Below.refl w.heap.size w)
 have H := h
 unfold impl_ControllerWith.f at H
 clear h
 replace H := jC.mp H
 obtain ⟨t133, A20, H⟩ := H
 try dsimp only at H
 have A2 := jA A20
 clear A20
 by_cases c3 : t133 = true
 ·subst c3
  rw [if_pos rfl] at H
  replace H := jC.mp H
  obtain ⟨⟨t134, t135, t136, t137, t138, t139⟩, A40, H⟩ := H
  try dsimp only at H
  have A4 := jA A40
  clear A40
  simp only [jH, jK] at H
  obtain ⟨rfl, rfl, rfl, rfl, rfl, rfl, rfl⟩ := H
  go_enter Try.func14, Try.ntmps14
  go_wp2_with (first | ((with_reducible refine jJ (N := 2) rfl ?_); refine zE 2 #[.bool false, .bool false, .bool false, .bool false, .bool false, .int .i64 0] 23 ?_; intro gb132 hg w5 hbox hb; have BK132 := jA (hbox); have GW132 := zg0 hg HB; have GE132 := zg0 hg HB; replace HB := zS0 HB hb; clear hb hbox hg) | ((with_reducible refine jG (f := 49) rfl ?_); refine zL (some 5) Try.func49 #[.int .i64 a0] ?_; (with_reducible refine (impl_isNumber.calls a0 true _ A2.out).mono ?_); rintro e w6 ⟨rfl, hb⟩; refine ⟨_, rfl, ?_⟩; replace BK132 := zB BK132 hb; replace HB := zS1 HB GE132 hb; clear hb) | ((with_reducible refine jG (f := 50) rfl ?_); refine zL (some 9) Try.func50 #[.int .i64 a0] ?_; (with_reducible refine (impl_controllerWith.calls a0 t134 t135 t136 t137 t138 t139 _ A4.out).mono ?_); rintro e w7 ⟨rfl, hb⟩; refine ⟨_, rfl, ?_⟩; replace BK132 := zB BK132 hb; replace HB := zS1 HB GE132 hb; clear hb; have hcz8 := zc6 BK132))
  refine jQ (results_ct rfl _ _ gb132 23 #[.bool t134, .bool t135, .bool t136, .bool t137, .bool t138, .int .i64 t139] (0, 0) _ rfl (zP0 BK132) Try.underlying23 rfl zr) rfl ?_
  exact ⟨ze, zb1 HB GE132⟩
 ·replace c3 := Bool.eq_false_iff.mpr c3
  subst c3
  rw [if_neg zfalse] at H
  simp only [jH, jK] at H
  obtain ⟨rfl, rfl, rfl, rfl, rfl, rfl, rfl⟩ := H
  go_enter Try.func14, Try.ntmps14
  go_wp2_with (first | ((with_reducible refine jJ (N := 2) rfl ?_); refine zE 2 #[.bool false, .bool false, .bool false, .bool false, .bool false, .int .i64 0] 23 ?_; intro gb132 hg w9 hbox hb; have BK132 := jA (hbox); have GW132 := zg0 hg HB; have GE132 := zg0 hg HB; replace HB := zS0 HB hb; clear hb hbox hg) | ((with_reducible refine jG (f := 49) rfl ?_); refine zL (some 5) Try.func49 #[.int .i64 a0] ?_; (with_reducible refine (impl_isNumber.calls a0 false _ A2.out).mono ?_); rintro e w10 ⟨rfl, hb⟩; refine ⟨_, rfl, ?_⟩; replace BK132 := zB BK132 hb; replace HB := zS1 HB GE132 hb; clear hb; have hcz11 := zc6 BK132))
  refine jQ (results_ct rfl _ _ gb132 23 #[.bool false, .bool false, .bool false, .bool false, .bool false, .int .i64 0] (0, 0) _ rfl (zP0 BK132) Try.underlying23 rfl zr) rfl ?_
  exact ⟨ze, zb1 HB GE132⟩

/-! ### spec_l25Number: function 52 -/
def spec_l25Number.l0 : Nat → Int → List Bool → Int → Int → Option (Int)
 | 0, _, _, _, _ => none
 | k + 1, x3, x4, x5, x6 => if x6 < (x4.length : Int) then (if 0 ≤ x6 then (if rdOf false x4 x6 = true then (spec_l25Number.l0 k (wrap64 (x3 + x5)) x4 (wrap64 (2 * x5)) (wrap64 (x6 + 1))) else (spec_l25Number.l0 k x3 x4 (wrap64 (2 * x5)) (wrap64 (x6 + 1)))) else (none)) else (some x3)
def spec_l25Number.f (k : Nat) (a0_0 : Bool) (a0_1 : Bool) (a0_2 : Bool) (a0_3 : Bool) (a0_4 : Bool) (a0_5 : Int) : Option (Int) := spec_l25Number.l0 k (wrap64 (32 * a0_5)) (([a0_0, a0_1, a0_2, a0_3, a0_4] : List Bool)) 1 0
theorem spec_l25Number.mono_l : ∀ k, (∀ y0 y1 y2 y3, LeO (spec_l25Number.l0 k y0 y1 y2 y3) (spec_l25Number.l0 (k + 1) y0 y1 y2 y3))
 | 0 => fun _ _ _ _ r h => by simp [spec_l25Number.l0] at h
 | k + 1 => by
  have ih0 := spec_l25Number.mono_l k
  ·intro y0 y1 y2 y3
   unfold spec_l25Number.l0
   repeat' first
   | (with_reducible exact ih0 _ _ _ _)
   | (with_reducible exact LeO.refl _)
   | (with_reducible exact LeO.none _)
   | (with_reducible refine LeO.ite ?_ ?_)
   | (with_reducible refine LeO.bind ?_ (fun _ => ?_))
   | exact ih0 _ _ _ _
   | exact LeO.none _
   | refine LeO.ite ?_ ?_
   | refine LeO.bind ?_ (fun _ => ?_)
theorem spec_l25Number.mono : ∀ a0 a1 a2 a3 a4 a5 k, LeO (spec_l25Number.f k a0 a1 a2 a3 a4 a5) (spec_l25Number.f (k + 1) a0 a1 a2 a3 a4 a5) := by
 intro a0 a1 a2 a3 a4 a5 k
 have ih0 := spec_l25Number.mono_l k
 unfold spec_l25Number.f
 repeat' first
   | (with_reducible exact ih0 _ _ _ _)
   | (with_reducible exact LeO.refl _)
   | (with_reducible exact LeO.none _)
   | (with_reducible refine LeO.ite ?_ ?_)
   | (with_reducible refine LeO.bind ?_ (fun _ => ?_))
   | exact ih0 _ _ _ _
   | exact LeO.none _
   | refine LeO.ite ?_ ?_
   | refine LeO.bind ?_ (fun _ => ?_)
set_option maxHeartbeats 8000000 in
set_option maxRecDepth 100000 in
theorem spec_l25Number.calls (k : Nat) (a0_0 : Bool) (a0_1 : Bool) (a0_2 : Bool) (a0_3 : Bool) (a0_4 : Bool) (a0_5 : Int) (r : Int) (w : World) (h : spec_l25Number.f k a0_0 a0_1 a0_2 a0_3 a0_4 a0_5 = some r) :
  Calls Try.prog 52 #[.agg #[.bool a0_0, .bool a0_1, .bool a0_2, .bool a0_3, .bool a0_4, .int .i64 a0_5]] w fun e w' => e = .returned (.int .i64 r) ∧ Below w.heap.size w w' := by
 have hu23 := Try.underlying23
 have HB := jA (Below.refl w.heap.size w)
 have H := h
 unfold spec_l25Number.f at H
 clear h
 obtain ⟨y141, hy141⟩ : ∃ y_ : List Bool, y_ = (([a0_0, a0_1, a0_2, a0_3, a0_4] : List Bool)) := ⟨_, rfl⟩
 replace H : (spec_l25Number.l0 k (wrap64 (32 * a0_5)) y141 1 0) = some r := by first | (rw [hy141]; with_reducible exact H) | (have H2_ := (Option.bind_some _ _).symm.trans H; rw [hy141]; with_reducible exact H2_) | (have H2_ := (Option.bind_some _ _).symm.trans H; with_reducible exact H2_) | with_reducible exact H | (rw [hy141]; exact H) | exact H
 have Ny141 := jA hy141
 clear hy141
 have H' := jA H
 clear H
 go_enter Try.func52, Try.ntmps52
 go_wp2_with (first | ((with_reducible refine jJ (N := 1) rfl ?_); refine zE 1 #[.bool a0_0, .bool a0_1, .bool a0_2, .bool a0_3, .bool a0_4, .int .i64 a0_5] 23 ?_; intro gb140 hg w2 hbox hb; have BK140 := jA (hbox); have GW140 := zg0 hg HB; have GE140 := zg0 hg HB; replace HB := zS0 HB hb; clear hb hbox hg; have hcz3 := zc6 BK140) | ((with_reducible refine jJ (N := 20) rfl ?_); refine Kd.R_lit Kd.bool _ 4 ?hg (N := 20) ?hd (xs := ([a0_0, a0_1, a0_2, a0_3, a0_4] : List Bool)) (inner := [.bool a0_0, .bool a0_1, .bool a0_2, .bool a0_3, .bool a0_4]) (ok := fun _ => True) (okp := fun _ => True) ?hr ?hp (fun _ hk => hk) trivial (Below.refl _ _) (Nat.le_refl _) (by simp) ?_; (case hd => rfl); (case hg => rfl); (case hr => first | (go_simp; done) | (go_simp; rfl)); (case hp => exact (Reps.one (show Kd.M Kd.bool _ _ _ a0_0 [.bool a0_0] from rfl) (Reps.one (show Kd.M Kd.bool _ _ _ a0_1 [.bool a0_1] from rfl) (Reps.one (show Kd.M Kd.bool _ _ _ a0_2 [.bool a0_2] from rfl) (Reps.one (show Kd.M Kd.bool _ _ _ a0_3 [.bool a0_3] from rfl) (Reps.one (show Kd.M Kd.bool _ _ _ a0_4 [.bool a0_4] from rfl) (Reps.none _ _))))))); intro v142 w4 ho5 hb hg_ hnew_; clear hg_ hnew_; (first | rw [← Ny141.out] at ho5 | (simp only [Int.reduceToNat] at ho5; rw [← Ny141.out] at ho5)); have HO143 := jA (jX ho5 (jT (zb1 HB GE140))); replace BK140 := zB BK140 hb; replace HB := zS1 HB GE140 hb; clear hb ho5))
 go_loopg [3, 5, 6] k (fun kq v3 v5 v6 w' => ∃ (x3_1 : Int) (x5_1 : Int) (x6_1 : Int), v3 = .int .i64 x3_1 ∧ v5 = .int .i64 x5_1 ∧ v6 = .int .i64 x6_1 ∧ Aside0 (spec_l25Number.l0 kq x3_1 y141 x5_1 x6_1 = some r) ∧ Aside0 (kq ≤ k) ∧ Aside0 (Kd.R Kd.bool 4 w' w.heap.size (fun _ => True) v142 y141) ∧ Aside0 (w'.heap[gb140]? = some (.cells #[.bool a0_0, .bool a0_1, .bool a0_2, .bool a0_3, .bool a0_4, .int .i64 a0_5] 23 (0, 0))) ∧ Aside0 (Below w.heap.size w w'))
 case atStart => exact ⟨(wrap64 (32 * a0_5)), (1), (0), zz, zz, zz, H', ⟨Nat.le_refl _⟩, ⟨zo HO143⟩, ⟨zk BK140⟩, ⟨zb1 HB GE140⟩⟩
 case round =>
  clear H'
  try clear p2
  try clear c5
  try clear hcz3
  obtain ⟨x3_1, x5_1, x6_1, rfl, rfl, rfl, HA, HK1, HO_4, BK140, HB⟩ := hrel
  cases gk with
  | zero => exact absurd HA.out (by simp [spec_l25Number.l0])
  | succ k1 =>
   have H := HA.out
   clear HA
   simp only [spec_l25Number.l0] at H
   by_cases c6 : x6_1 < (y141.length : Int)
   ·rw [if_pos c6] at H
    have c6b0 : decide (x6_1 < (y141.length : Int)) = true := jI c6
    clear c6
    by_cases c7 : 0 ≤ x6_1
    ·rw [if_pos c7] at H
     have c7b0 : decide (0 ≤ x6_1) = true := jI c7
     clear c7
     obtain ⟨bq8, hbq8⟩ : ∃ b_ : Bool, b_ = (rdOf false y141 x6_1) := ⟨_, rfl⟩
     replace H : (if bq8 = true then (spec_l25Number.l0 k1 (wrap64 (x3_1 + x5_1)) y141 (wrap64 (2 * x5_1)) (wrap64 (x6_1 + 1))) else (spec_l25Number.l0 k1 x3_1 y141 (wrap64 (2 * x5_1)) (wrap64 (x6_1 + 1)))) = some r := by rw [← hbq8] at H; exact H
     have Nbq8 := jA hbq8
     clear hbq8
     by_cases c9 : bq8 = true
     ·subst c9
      rw [if_pos rfl] at H
      have H' := jA H
      clear H
      obtain ⟨Ao10, co10, eo10⟩ := Kd.R_slice HO_4.out
      subst eo10
      have p144 : 0 ≤ (x6_1 : Int) := jB za
      have q144 : x6_1 < (y141.length : Int) := jB za
      obtain ⟨ad144, e144, hx144_0⟩ := Kd.at_bool (jO HO_4.out).2.2 x6_1 p144 q144
      (try rw [← Nbq8.out] at hx144_0)
      cases e144
      replace p144 := eq_true p144
      replace q144 := eq_true q144
      go_wp2
      go_roundg k1
      case measure => have := HK1.out; omega
      case rel => exact ⟨(wrap64 (x3_1 + x5_1)), (wrap64 (2 * x5_1)), (wrap64 (x6_1 + 1)), zz, zz, zz, H', ⟨by have := HK1.out; omega⟩, ⟨zo HO_4⟩, ⟨zk BK140⟩, ⟨zb1 HB GE140⟩⟩
     ·replace c9 := Bool.eq_false_iff.mpr c9
      subst c9
      rw [if_neg zfalse] at H
      have H' := jA H
      clear H
      obtain ⟨Ao11, co11, eo11⟩ := Kd.R_slice HO_4.out
      subst eo11
      have p144 : 0 ≤ (x6_1 : Int) := jB za
      have q144 : x6_1 < (y141.length : Int) := jB za
      obtain ⟨ad144, e144, hx144_0⟩ := Kd.at_bool (jO HO_4.out).2.2 x6_1 p144 q144
      (try rw [← Nbq8.out] at hx144_0)
      cases e144
      replace p144 := eq_true p144
      replace q144 := eq_true q144
      go_wp2
      go_roundg k1
      case measure => have := HK1.out; omega
      case rel => exact ⟨(x3_1), (wrap64 (2 * x5_1)), (wrap64 (x6_1 + 1)), zz, zz, zz, H', ⟨by have := HK1.out; omega⟩, ⟨zo HO_4⟩, ⟨zk BK140⟩, ⟨zb1 HB GE140⟩⟩
    ·rw [if_neg c7] at H
     exact absurd H (by simp)
   ·rw [if_neg c6] at H
    have c6b0 : decide (x6_1 < (y141.length : Int)) = false := jS c6
    clear c6
    obtain rfl := jN H
    obtain ⟨Ao12, co12, eo12⟩ := Kd.R_slice HO_4.out
    subst eo12
    go_wp2
    go_ret
    exact ⟨ze, zb1 HB GE140⟩

/-! ### spec_NumberOf: function 16 -/
def spec_NumberOf.f (k : Nat) (a0_0 : Bool) (a0_1 : Bool) (a0_2 : Bool) (a0_3 : Bool) (a0_4 : Bool) (a0_5 : Int) : Option (Int × Int) := (spec_IsSound.f a0_0 a0_1 a0_2 a0_3 a0_4 a0_5).bind fun t146 => (if t146 = true then ((spec_l25Number.f k a0_0 a0_1 a0_2 a0_3 a0_4 a0_5).bind fun t147 => (some (t147, 0))) else (some (0, 1)))
theorem spec_NumberOf.mono : ∀ a0 a1 a2 a3 a4 a5 k, LeO (spec_NumberOf.f k a0 a1 a2 a3 a4 a5) (spec_NumberOf.f (k + 1) a0 a1 a2 a3 a4 a5) := by
 intro a0 a1 a2 a3 a4 a5 k
 unfold spec_NumberOf.f
 repeat' first
   | (with_reducible exact spec_l25Number.mono _ _ _ _ _ _ _)
   | (with_reducible exact LeO.refl _)
   | (with_reducible exact LeO.none _)
   | (with_reducible refine LeO.ite ?_ ?_)
   | (with_reducible refine LeO.bind ?_ (fun _ => ?_))
   | exact spec_l25Number.mono _ _ _ _ _ _ _
   | exact LeO.none _
   | refine LeO.ite ?_ ?_
   | refine LeO.bind ?_ (fun _ => ?_)
set_option maxHeartbeats 8000000 in
set_option maxRecDepth 100000 in
theorem spec_NumberOf.calls (k : Nat) (a0_0 : Bool) (a0_1 : Bool) (a0_2 : Bool) (a0_3 : Bool) (a0_4 : Bool) (a0_5 : Int) (r1 : Int) (r2 : Int) (w : World) (h : spec_NumberOf.f k a0_0 a0_1 a0_2 a0_3 a0_4 a0_5 = some (r1, r2)) :
  Calls Try.prog 16 #[.agg #[.bool a0_0, .bool a0_1, .bool a0_2, .bool a0_3, .bool a0_4, .int .i64 a0_5]] w fun e w' => e = .returned (.tuple #[.int .i64 r1, .int .i64 r2]) ∧ Below w.heap.size w w' := by
 have hu23 := Try.underlying23
 have HB := jA (Below.refl w.heap.size w)
 have H := h
 unfold spec_NumberOf.f at H
 clear h
 replace H := jC.mp H
 obtain ⟨t146, A20, H⟩ := H
 try dsimp only at H
 have A2 := jA A20
 clear A20
 by_cases c3 : t146 = true
 ·subst c3
  rw [if_pos rfl] at H
  replace H := jC.mp H
  obtain ⟨t147, A40, H⟩ := H
  replace H : (some (t147, 0)) = some (r1, r2) := H
  have A4 := jA A40
  clear A40
  simp only [jH, jK] at H
  obtain ⟨rfl, rfl⟩ := H
  go_enter Try.func16, Try.ntmps16
  go_wp2_with (first | ((with_reducible refine jJ (N := 1) rfl ?_); refine zE 1 #[.bool a0_0, .bool a0_1, .bool a0_2, .bool a0_3, .bool a0_4, .int .i64 a0_5] 23 ?_; intro gb145 hg w5 hbox hb; have BK145 := jA (hbox); have GW145 := zg0 hg HB; have GE145 := zg0 hg HB; replace HB := zS0 HB hb; clear hb hbox hg; have hcz6 := zc6 BK145) | ((with_reducible refine jG (f := 51) rfl ?_); refine zL (some 5) Try.func51 #[.agg #[.bool a0_0, .bool a0_1, .bool a0_2, .bool a0_3, .bool a0_4, .int .i64 a0_5]] ?_; (with_reducible refine (spec_IsSound.calls a0_0 a0_1 a0_2 a0_3 a0_4 a0_5 true _ A2.out).mono ?_); rintro e w7 ⟨rfl, hb⟩; refine ⟨_, rfl, ?_⟩; replace BK145 := zB BK145 hb; replace HB := zS1 HB GE145 hb; clear hb; have hcz8 := zc6 BK145) | ((with_reducible refine jG (f := 52) rfl ?_); refine zL (some 8) Try.func52 #[.agg #[.bool a0_0, .bool a0_1, .bool a0_2, .bool a0_3, .bool a0_4, .int .i64 a0_5]] ?_; (with_reducible refine (spec_l25Number.calls k a0_0 a0_1 a0_2 a0_3 a0_4 a0_5 t147 _ A4.out).mono ?_); rintro e w9 ⟨rfl, hb⟩; refine ⟨_, rfl, ?_⟩; replace BK145 := zB BK145 hb; replace HB := zS1 HB GE145 hb; clear hb))
  go_ret2
  exact ⟨ze, zb1 HB GE145⟩
 ·replace c3 := Bool.eq_false_iff.mpr c3
  subst c3
  rw [if_neg zfalse] at H
  simp only [jH, jK] at H
  obtain ⟨rfl, rfl⟩ := H
  go_enter Try.func16, Try.ntmps16
  go_wp2_with (first | ((with_reducible refine jJ (N := 1) rfl ?_); refine zE 1 #[.bool a0_0, .bool a0_1, .bool a0_2, .bool a0_3, .bool a0_4, .int .i64 a0_5] 23 ?_; intro gb145 hg w10 hbox hb; have BK145 := jA (hbox); have GW145 := zg0 hg HB; have GE145 := zg0 hg HB; replace HB := zS0 HB hb; clear hb hbox hg; have hcz11 := zc6 BK145) | ((with_reducible refine jG (f := 51) rfl ?_); refine zL (some 5) Try.func51 #[.agg #[.bool a0_0, .bool a0_1, .bool a0_2, .bool a0_3, .bool a0_4, .int .i64 a0_5]] ?_; (with_reducible refine (spec_IsSound.calls a0_0 a0_1 a0_2 a0_3 a0_4 a0_5 false _ A2.out).mono ?_); rintro e w12 ⟨rfl, hb⟩; refine ⟨_, rfl, ?_⟩; replace BK145 := zB BK145 hb; replace HB := zS1 HB GE145 hb; clear hb))
  go_ret2
  exact ⟨ze, zb1 HB GE145⟩

/-! ### impl_bit: function 79 -/
def impl_bit.f (a0 : Bool) (a1 : Int) : Option (Int) := if a0 = true then (some a1) else (some 0)
set_option maxHeartbeats 8000000 in
set_option maxRecDepth 100000 in
theorem impl_bit.calls (a0 : Bool) (a1 : Int) (r : Int) (w : World) (h : impl_bit.f a0 a1 = some r) :
  Calls Try.prog 79 #[.bool a0, .int .i64 a1] w fun e w' => e = .returned (.int .i64 r) ∧ Drawn0 w w' := by
 have H : (if a0 = true then (some a1) else (some 0)) = some r := h
 clear h
 by_cases c3 : a0 = true
 ·subst c3
  rw [if_pos rfl] at H
  obtain rfl := jN H
  go_enter Try.func79, Try.ntmps79
  go_wp2
  go_ret
  exact ⟨by first | rfl | (simp; done) | (simp [*]; done), by repeat (first | exact Drawn0.refl _ | apply Drawn0.step)⟩
 ·replace c3 := Bool.eq_false_iff.mpr c3
  subst c3
  rw [if_neg zfalse] at H
  obtain rfl := jN H
  go_enter Try.func79, Try.ntmps79
  go_wp2
  go_ret
  exact ⟨by first | rfl | (simp; done) | (simp [*]; done), by repeat (first | exact Drawn0.refl _ | apply Drawn0.step)⟩

end Go.Proofs.Ythieppjmjgijfaa.PFnProofs
