/- Functions and contracts that FnProofs reaches (15 of 22). -/
import Derived.Test.YthieppjmjgijfaaQFnProofsx13
namespace Go.Proofs.Ythieppjmjgijfaa.PFnProofs
open Go.RowKit Go.Proofs.YthieppjmjgijfaaW.PrintWords Go.Proofs.YthieppjmjgijfaaW.PrintLast Go.Proofs.YthieppjmjgijfaaW.PrintMore
attribute [local go_sem] max2_int min2_int max_two min_two max_three min_three max_four min_four   -- for this text's walks alone
set_option linter.unusedVariables false
set_option linter.unusedSimpArgs false

/-! ### impl_giveInput: function 67 -/
def impl_giveInput.f (a0_0 : Bool) (a0_1 : Bool) (a0_2 : Bool) (a0_3 : Bool) (a0_4 : Bool) (a0_5 : Int) (a1 : Int) : Option (Bool × Bool × Bool × Bool × Bool × Int × Int) := if a1 = 0 then (if a0_0 = true then ((impl_safe.f (!a0_0) a0_1 a0_2 a0_3 a0_4 a0_5).bind fun bt492 => (some (bt492.1, bt492.2.1, bt492.2.2.1, bt492.2.2.2.1, bt492.2.2.2.2.1, bt492.2.2.2.2.2, 0))) else (some (!a0_0, a0_1, a0_2, a0_3, a0_4, a0_5, 0))) else (if a1 = 1 then (if a0_1 = true then ((impl_safe.f a0_0 (!a0_1) a0_2 a0_3 a0_4 a0_5).bind fun bt498 => (some (bt498.1, bt498.2.1, bt498.2.2.1, bt498.2.2.2.1, bt498.2.2.2.2.1, bt498.2.2.2.2.2, 0))) else (some (a0_0, !a0_1, a0_2, a0_3, a0_4, a0_5, 0))) else (if a1 = 2 then (if a0_0 = true then (if a0_1 = true then (if a0_4 = true then (some (false, false, false, false, false, 0, 5)) else (some (a0_0, a0_1, true, false, a0_4, 0, 0))) else (some (false, false, false, false, false, 0, 5))) else (some (false, false, false, false, false, 0, 5))) else (if a1 = 3 then ((impl_safe.f a0_0 a0_1 a0_2 a0_3 a0_4 a0_5).bind fun bt504 => (some (bt504.1, bt504.2.1, bt504.2.2.1, bt504.2.2.2.1, bt504.2.2.2.2.1, bt504.2.2.2.2.2, 0))) else (if a1 = 4 then (if a0_2 = true then (if a0_3 = true then (some (false, false, false, false, false, 0, 5)) else (some (a0_0, a0_1, a0_2, true, a0_4, a0_5, 0))) else (some (false, false, false, false, false, 0, 5))) else (if a1 = 5 then (if a0_3 = true then (some (a0_0, a0_1, a0_2, false, a0_4, a0_5, 0)) else (some (false, false, false, false, false, 0, 5))) else (if a1 = 6 then ((impl_safe.f a0_0 a0_1 a0_2 a0_3 a0_4 a0_5).bind fun bt510 => (some (bt510.1, bt510.2.1, bt510.2.2.1, bt510.2.2.2.1, true, bt510.2.2.2.2.2, 0))) else (if a1 = 7 then (some (a0_0, a0_1, a0_2, a0_3, a0_4, 0, 0)) else (if a1 = 8 then (if (mn (wrap64 (a0_5 + 1)) 4) > 3 then ((impl_safe.f a0_0 a0_1 a0_2 a0_3 a0_4 (mn (wrap64 (a0_5 + 1)) 4)).bind fun bt516 => (some (bt516.1, bt516.2.1, bt516.2.2.1, bt516.2.2.2.1, bt516.2.2.2.2.1, bt516.2.2.2.2.2, 0))) else (some (a0_0, a0_1, a0_2, a0_3, a0_4, mn (wrap64 (a0_5 + 1)) 4, 0))) else (if a1 = 9 then (if a0_4 = true then (if a0_0 = true then (some (false, false, false, false, false, 0, 5)) else (if a0_1 = true then (some (false, false, false, false, false, 0, 5)) else (some (a0_0, a0_1, a0_2, a0_3, false, a0_5, 0)))) else (some (false, false, false, false, false, 0, 5))) else (some (false, false, false, false, false, 0, 2)))))))))))
set_option maxHeartbeats 8000000 in
set_option maxRecDepth 100000 in
theorem impl_giveInput.calls (a0_0 : Bool) (a0_1 : Bool) (a0_2 : Bool) (a0_3 : Bool) (a0_4 : Bool) (a0_5 : Int) (a1 : Int) (r1 : Bool) (r2 : Bool) (r3 : Bool) (r4 : Bool) (r5 : Bool) (r6 : Int) (r7 : Int) (w : World) (h : impl_giveInput.f a0_0 a0_1 a0_2 a0_3 a0_4 a0_5 a1 = some (r1, r2, r3, r4, r5, r6, r7)) :
  Calls Try.prog 67 #[.agg #[.bool a0_0, .bool a0_1, .bool a0_2, .bool a0_3, .bool a0_4, .int .i64 a0_5], .int .i64 a1] w fun e w' => e = .returned (.tuple #[.agg #[.bool r1, .bool r2, .bool r3, .bool r4, .bool r5, .int .i64 r6], .int .i64 r7]) ∧ Below w.heap.size w w' := by
 have hu23 := Try.underlying23
 have HB := jA (Below.refl w.heap.size w)
 have H := h
 unfold impl_giveInput.f at H
 clear h
 by_cases c3 : a1 = 0
 ·rw [if_pos c3] at H
  have c3b0 : (a1 == 0) = true := beq_iff_eq.mpr c3
  have c3b1 : (a1 != 0) = false := bne_eq_false_iff_eq.mpr c3
  clear c3
  by_cases c4 : a0_0 = true
  ·subst c4
   rw [if_pos rfl] at H
   replace H := jC.mp H
   obtain ⟨⟨t492, t493, t494, t495, t496, t497⟩, A50, H⟩ := H
   try dsimp only at H
   have A5 := jA A50
   clear A50
   simp only [jH, jK] at H
   obtain ⟨rfl, rfl, rfl, rfl, rfl, rfl, rfl⟩ := H
   go_enter Try.func67, Try.ntmps67
   go_wp2_with (first | ((with_reducible refine jJ (N := 2) rfl ?_); refine zE 2 #[.bool true, .bool a0_1, .bool a0_2, .bool a0_3, .bool a0_4, .int .i64 a0_5] 23 ?_; intro gb490 hg w6 hbox hb; have BK490 := jA (hbox); have GW490 := zg0 hg HB; have GE490 := zg0 hg HB; replace HB := zS0 HB hb; clear hb hbox hg) | ((with_reducible refine jJ (N := 4) rfl ?_); refine zE 4 #[.bool false, .bool false, .bool false, .bool false, .bool false, .int .i64 0] 23 ?_; intro gb491 hg w7 hbox hb; have BK491 := jA (hbox); have GW491 := zg1 hg HB GE490; have GE491 := zg1 hg HB GE490; replace HB := zS1 HB GE490 hb; have NB490_491 := zn hg BK490; replace BK490 := zB BK490 hb; have NB491_490 := jA NB490_491.out.symm; clear hb hbox hg; have hnb8 := NB490_491.out; have hnc8 := NB491_490.out; have hcz9 := zc6 BK490) | ((with_reducible refine jG (f := 83) rfl ?_); refine zL (some 18) Try.func83 #[.agg #[.bool (!true), .bool a0_1, .bool a0_2, .bool a0_3, .bool a0_4, .int .i64 a0_5]] ?_; (with_reducible refine (impl_safe.calls (!true) a0_1 a0_2 a0_3 a0_4 a0_5 t492 t493 t494 t495 t496 t497 _ A5.out).mono ?_); rintro e w10 ⟨rfl, hb⟩; refine ⟨_, rfl, ?_⟩; replace BK490 := jA (jU (g := gb490) (o := .cells #[.bool (!true), .bool a0_1, .bool a0_2, .bool a0_3, .bool a0_4, .int .i64 a0_5] 23 (0, 0)) (zP0 BK490) hb); replace BK491 := jA (jU (g := gb491) (o := .cells #[.bool false, .bool false, .bool false, .bool false, .bool false, .int .i64 0] 23 (0, 0)) (zQ1 BK491 NB491_490) hb); replace HB := zS2 HB GE490 GE491 hb; clear hb; have hcz11 := zc6 BK490; have hcz12 := zc6 BK491))
   refine jQ (results_ct rfl _ _ gb491 23 #[.bool t492, .bool t493, .bool t494, .bool t495, .bool t496, .int .i64 t497] (0, 0) _ rfl (zP1 BK491 NB491_490) Try.underlying23 rfl zr) rfl ?_
   exact ⟨ze, zb2 HB GE490 GE491⟩
  ·replace c4 := Bool.eq_false_iff.mpr c4
   subst c4
   rw [if_neg zfalse] at H
   simp only [jH, jK] at H
   obtain ⟨rfl, rfl, rfl, rfl, rfl, rfl, rfl⟩ := H
   go_enter Try.func67, Try.ntmps67
   go_wp2_with (first | ((with_reducible refine jJ (N := 2) rfl ?_); refine zE 2 #[.bool false, .bool a0_1, .bool a0_2, .bool a0_3, .bool a0_4, .int .i64 a0_5] 23 ?_; intro gb490 hg w13 hbox hb; have BK490 := jA (hbox); have GW490 := zg0 hg HB; have GE490 := zg0 hg HB; replace HB := zS0 HB hb; clear hb hbox hg) | ((with_reducible refine jJ (N := 4) rfl ?_); refine zE 4 #[.bool false, .bool false, .bool false, .bool false, .bool false, .int .i64 0] 23 ?_; intro gb491 hg w14 hbox hb; have BK491 := jA (hbox); have GW491 := zg1 hg HB GE490; have GE491 := zg1 hg HB GE490; replace HB := zS1 HB GE490 hb; have NB490_491 := zn hg BK490; replace BK490 := zB BK490 hb; have NB491_490 := jA NB490_491.out.symm; clear hb hbox hg; have hnb15 := NB490_491.out; have hnc15 := NB491_490.out; have hcz16 := zc6 BK490; have hcz17 := zc6 BK491))
   refine jQ (results_ct rfl _ _ gb491 23 #[.bool (!false), .bool a0_1, .bool a0_2, .bool a0_3, .bool a0_4, .int .i64 a0_5] (0, 0) _ rfl (zP1 BK491 NB491_490) Try.underlying23 rfl zr) rfl ?_
   exact ⟨ze, zb2 HB GE490 GE491⟩
 ·rw [if_neg c3] at H
  have c3b0 : (a1 == 0) = false := beq_eq_false_iff_ne.mpr c3
  have c3b1 : (a1 != 0) = true := bne_iff_ne.mpr c3
  by_cases c18 : a1 = 1
  ·rw [if_pos c18] at H
   have c18b0 : (a1 == 1) = true := beq_iff_eq.mpr c18
   have c18b1 : (a1 != 1) = false := bne_eq_false_iff_eq.mpr c18
   clear c18
   by_cases c19 : a0_1 = true
   ·subst c19
    rw [if_pos rfl] at H
    replace H := jC.mp H
    obtain ⟨⟨t498, t499, t500, t501, t502, t503⟩, A200, H⟩ := H
    try dsimp only at H
    have A20 := jA A200
    clear A200
    simp only [jH, jK] at H
    obtain ⟨rfl, rfl, rfl, rfl, rfl, rfl, rfl⟩ := H
    go_enter Try.func67, Try.ntmps67
    go_wp2_with (first | ((with_reducible refine jJ (N := 2) rfl ?_); refine zE 2 #[.bool a0_0, .bool true, .bool a0_2, .bool a0_3, .bool a0_4, .int .i64 a0_5] 23 ?_; intro gb490 hg w21 hbox hb; have BK490 := jA (hbox); have GW490 := zg0 hg HB; have GE490 := zg0 hg HB; replace HB := zS0 HB hb; clear hb hbox hg) | ((with_reducible refine jJ (N := 4) rfl ?_); refine zE 4 #[.bool false, .bool false, .bool false, .bool false, .bool false, .int .i64 0] 23 ?_; intro gb491 hg w22 hbox hb; have BK491 := jA (hbox); have GW491 := zg1 hg HB GE490; have GE491 := zg1 hg HB GE490; replace HB := zS1 HB GE490 hb; have NB490_491 := zn hg BK490; replace BK490 := zB BK490 hb; have NB491_490 := jA NB490_491.out.symm; clear hb hbox hg; have hnb23 := NB490_491.out; have hnc23 := NB491_490.out; have hcz24 := zc6 BK490) | ((with_reducible refine jG (f := 83) rfl ?_); refine zL (some 29) Try.func83 #[.agg #[.bool a0_0, .bool (!true), .bool a0_2, .bool a0_3, .bool a0_4, .int .i64 a0_5]] ?_; (with_reducible refine (impl_safe.calls a0_0 (!true) a0_2 a0_3 a0_4 a0_5 t498 t499 t500 t501 t502 t503 _ A20.out).mono ?_); rintro e w25 ⟨rfl, hb⟩; refine ⟨_, rfl, ?_⟩; replace BK490 := jA (jU (g := gb490) (o := .cells #[.bool a0_0, .bool (!true), .bool a0_2, .bool a0_3, .bool a0_4, .int .i64 a0_5] 23 (0, 0)) (zP0 BK490) hb); replace BK491 := jA (jU (g := gb491) (o := .cells #[.bool false, .bool false, .bool false, .bool false, .bool false, .int .i64 0] 23 (0, 0)) (zQ1 BK491 NB491_490) hb); replace HB := zS2 HB GE490 GE491 hb; clear hb; have hcz26 := zc6 BK490; have hcz27 := zc6 BK491))
    refine jQ (results_ct rfl _ _ gb491 23 #[.bool t498, .bool t499, .bool t500, .bool t501, .bool t502, .int .i64 t503] (0, 0) _ rfl (zP1 BK491 NB491_490) Try.underlying23 rfl zr) rfl ?_
    exact ⟨ze, zb2 HB GE490 GE491⟩
   ·replace c19 := Bool.eq_false_iff.mpr c19
    subst c19
    rw [if_neg zfalse] at H
    simp only [jH, jK] at H
    obtain ⟨rfl, rfl, rfl, rfl, rfl, rfl, rfl⟩ := H
    go_enter Try.func67, Try.ntmps67
    go_wp2_with (first | ((with_reducible refine jJ (N := 2) rfl ?_); refine zE 2 #[.bool a0_0, .bool false, .bool a0_2, .bool a0_3, .bool a0_4, .int .i64 a0_5] 23 ?_; intro gb490 hg w28 hbox hb; have BK490 := jA (hbox); have GW490 := zg0 hg HB; have GE490 := zg0 hg HB; replace HB := zS0 HB hb; clear hb hbox hg) | ((with_reducible refine jJ (N := 4) rfl ?_); refine zE 4 #[.bool false, .bool false, .bool false, .bool false, .bool false, .int .i64 0] 23 ?_; intro gb491 hg w29 hbox hb; have BK491 := jA (hbox); have GW491 := zg1 hg HB GE490; have GE491 := zg1 hg HB GE490; replace HB := zS1 HB GE490 hb; have NB490_491 := zn hg BK490; replace BK490 := zB BK490 hb; have NB491_490 := jA NB490_491.out.symm; clear hb hbox hg; have hnb30 := NB490_491.out; have hnc30 := NB491_490.out; have hcz31 := zc6 BK490; have hcz32 := zc6 BK491))
    refine jQ (results_ct rfl _ _ gb491 23 #[.bool a0_0, .bool (!false), .bool a0_2, .bool a0_3, .bool a0_4, .int .i64 a0_5] (0, 0) _ rfl (zP1 BK491 NB491_490) Try.underlying23 rfl zr) rfl ?_
    exact ⟨ze, zb2 HB GE490 GE491⟩
  ·rw [if_neg c18] at H
   have c18b0 : (a1 == 1) = false := beq_eq_false_iff_ne.mpr c18
   have c18b1 : (a1 != 1) = true := bne_iff_ne.mpr c18
   by_cases c33 : a1 = 2
   ·rw [if_pos c33] at H
    have c33b0 : (a1 == 2) = true := beq_iff_eq.mpr c33
    have c33b1 : (a1 != 2) = false := bne_eq_false_iff_eq.mpr c33
    clear c33
    by_cases c34 : a0_0 = true
    ·subst c34
     rw [if_pos rfl] at H
     by_cases c35 : a0_1 = true
     ·subst c35
      rw [if_pos rfl] at H
      by_cases c36 : a0_4 = true
      ·subst c36
       rw [if_pos rfl] at H
       simp only [jH, jK] at H
       obtain ⟨rfl, rfl, rfl, rfl, rfl, rfl, rfl⟩ := H
       go_enter Try.func67, Try.ntmps67
       go_wp2_with (first | ((with_reducible refine jJ (N := 2) rfl ?_); refine zE 2 #[.bool true, .bool true, .bool a0_2, .bool a0_3, .bool true, .int .i64 a0_5] 23 ?_; intro gb490 hg w37 hbox hb; have BK490 := jA (hbox); have GW490 := zg0 hg HB; have GE490 := zg0 hg HB; replace HB := zS0 HB hb; clear hb hbox hg) | ((with_reducible refine jJ (N := 4) rfl ?_); refine zE 4 #[.bool false, .bool false, .bool false, .bool false, .bool false, .int .i64 0] 23 ?_; intro gb491 hg w38 hbox hb; have BK491 := jA (hbox); have GW491 := zg1 hg HB GE490; have GE491 := zg1 hg HB GE490; replace HB := zS1 HB GE490 hb; have NB490_491 := zn hg BK490; replace BK490 := zB BK490 hb; have NB491_490 := jA NB490_491.out.symm; clear hb hbox hg; have hnb39 := NB490_491.out; have hnc39 := NB491_490.out; have hcz40 := zc6 BK490; have hcz41 := zc6 BK491))
       refine jQ (results_ct rfl _ _ gb491 23 #[.bool false, .bool false, .bool false, .bool false, .bool false, .int .i64 0] (0, 0) _ rfl (zP0 BK491) Try.underlying23 rfl zr) rfl ?_
       exact ⟨ze, zb2 HB GE490 GE491⟩
      ·replace c36 := Bool.eq_false_iff.mpr c36
       subst c36
       rw [if_neg zfalse] at H
       simp only [jH, jK] at H
       obtain ⟨rfl, rfl, rfl, rfl, rfl, rfl, rfl⟩ := H
       go_enter Try.func67, Try.ntmps67
       go_wp2_with (first | ((with_reducible refine jJ (N := 2) rfl ?_); refine zE 2 #[.bool true, .bool true, .bool a0_2, .bool a0_3, .bool false, .int .i64 a0_5] 23 ?_; intro gb490 hg w42 hbox hb; have BK490 := jA (hbox); have GW490 := zg0 hg HB; have GE490 := zg0 hg HB; replace HB := zS0 HB hb; clear hb hbox hg) | ((with_reducible refine jJ (N := 4) rfl ?_); refine zE 4 #[.bool false, .bool false, .bool false, .bool false, .bool false, .int .i64 0] 23 ?_; intro gb491 hg w43 hbox hb; have BK491 := jA (hbox); have GW491 := zg1 hg HB GE490; have GE491 := zg1 hg HB GE490; replace HB := zS1 HB GE490 hb; have NB490_491 := zn hg BK490; replace BK490 := zB BK490 hb; have NB491_490 := jA NB490_491.out.symm; clear hb hbox hg; have hnb44 := NB490_491.out; have hnc44 := NB491_490.out; have hcz45 := zc6 BK490; have hcz46 := zc6 BK491))
       refine jQ (results_ct rfl _ _ gb491 23 #[.bool true, .bool true, .bool true, .bool false, .bool false, .int .i64 0] (0, 0) _ rfl (zP1 BK491 NB491_490) Try.underlying23 rfl zr) rfl ?_
       exact ⟨ze, zb2 HB GE490 GE491⟩
     ·replace c35 := Bool.eq_false_iff.mpr c35
      subst c35
      rw [if_neg zfalse] at H
      simp only [jH, jK] at H
      obtain ⟨rfl, rfl, rfl, rfl, rfl, rfl, rfl⟩ := H
      go_enter Try.func67, Try.ntmps67
      go_wp2_with (first | ((with_reducible refine jJ (N := 2) rfl ?_); refine zE 2 #[.bool true, .bool false, .bool a0_2, .bool a0_3, .bool a0_4, .int .i64 a0_5] 23 ?_; intro gb490 hg w47 hbox hb; have BK490 := jA (hbox); have GW490 := zg0 hg HB; have GE490 := zg0 hg HB; replace HB := zS0 HB hb; clear hb hbox hg) | ((with_reducible refine jJ (N := 4) rfl ?_); refine zE 4 #[.bool false, .bool false, .bool false, .bool false, .bool false, .int .i64 0] 23 ?_; intro gb491 hg w48 hbox hb; have BK491 := jA (hbox); have GW491 := zg1 hg HB GE490; have GE491 := zg1 hg HB GE490; replace HB := zS1 HB GE490 hb; have NB490_491 := zn hg BK490; replace BK490 := zB BK490 hb; have NB491_490 := jA NB490_491.out.symm; clear hb hbox hg; have hnb49 := NB490_491.out; have hnc49 := NB491_490.out; have hcz50 := zc6 BK490; have hcz51 := zc6 BK491))
      refine jQ (results_ct rfl _ _ gb491 23 #[.bool false, .bool false, .bool false, .bool false, .bool false, .int .i64 0] (0, 0) _ rfl (zP0 BK491) Try.underlying23 rfl zr) rfl ?_
      exact ⟨ze, zb2 HB GE490 GE491⟩
    ·replace c34 := Bool.eq_false_iff.mpr c34
     subst c34
     rw [if_neg zfalse] at H
     simp only [jH, jK] at H
     obtain ⟨rfl, rfl, rfl, rfl, rfl, rfl, rfl⟩ := H
     go_enter Try.func67, Try.ntmps67
     go_wp2_with (first | ((with_reducible refine jJ (N := 2) rfl ?_); refine zE 2 #[.bool false, .bool a0_1, .bool a0_2, .bool a0_3, .bool a0_4, .int .i64 a0_5] 23 ?_; intro gb490 hg w52 hbox hb; have BK490 := jA (hbox); have GW490 := zg0 hg HB; have GE490 := zg0 hg HB; replace HB := zS0 HB hb; clear hb hbox hg) | ((with_reducible refine jJ (N := 4) rfl ?_); refine zE 4 #[.bool false, .bool false, .bool false, .bool false, .bool false, .int .i64 0] 23 ?_; intro gb491 hg w53 hbox hb; have BK491 := jA (hbox); have GW491 := zg1 hg HB GE490; have GE491 := zg1 hg HB GE490; replace HB := zS1 HB GE490 hb; have NB490_491 := zn hg BK490; replace BK490 := zB BK490 hb; have NB491_490 := jA NB490_491.out.symm; clear hb hbox hg; have hnb54 := NB490_491.out; have hnc54 := NB491_490.out; have hcz55 := zc6 BK490; have hcz56 := zc6 BK491))
     refine jQ (results_ct rfl _ _ gb491 23 #[.bool false, .bool false, .bool false, .bool false, .bool false, .int .i64 0] (0, 0) _ rfl (zP0 BK491) Try.underlying23 rfl zr) rfl ?_
     exact ⟨ze, zb2 HB GE490 GE491⟩
   ·rw [if_neg c33] at H
    have c33b0 : (a1 == 2) = false := beq_eq_false_iff_ne.mpr c33
    have c33b1 : (a1 != 2) = true := bne_iff_ne.mpr c33
    by_cases c57 : a1 = 3
    ·rw [if_pos c57] at H
     have c57b0 : (a1 == 3) = true := beq_iff_eq.mpr c57
     have c57b1 : (a1 != 3) = false := bne_eq_false_iff_eq.mpr c57
     clear c57
     replace H := jC.mp H
     obtain ⟨⟨t504, t505, t506, t507, t508, t509⟩, A580, H⟩ := H
     try dsimp only at H
     have A58 := jA A580
     clear A580
     simp only [jH, jK] at H
     obtain ⟨rfl, rfl, rfl, rfl, rfl, rfl, rfl⟩ := H
     go_enter Try.func67, Try.ntmps67
     go_wp2_with (first | ((with_reducible refine jJ (N := 2) rfl ?_); refine zE 2 #[.bool a0_0, .bool a0_1, .bool a0_2, .bool a0_3, .bool a0_4, .int .i64 a0_5] 23 ?_; intro gb490 hg w59 hbox hb; have BK490 := jA (hbox); have GW490 := zg0 hg HB; have GE490 := zg0 hg HB; replace HB := zS0 HB hb; clear hb hbox hg) | ((with_reducible refine jJ (N := 4) rfl ?_); refine zE 4 #[.bool false, .bool false, .bool false, .bool false, .bool false, .int .i64 0] 23 ?_; intro gb491 hg w60 hbox hb; have BK491 := jA (hbox); have GW491 := zg1 hg HB GE490; have GE491 := zg1 hg HB GE490; replace HB := zS1 HB GE490 hb; have NB490_491 := zn hg BK490; replace BK490 := zB BK490 hb; have NB491_490 := jA NB490_491.out.symm; clear hb hbox hg; have hnb61 := NB490_491.out; have hnc61 := NB491_490.out; have hcz62 := zc6 BK490) | ((with_reducible refine jG (f := 83) rfl ?_); refine zL (some 51) Try.func83 #[.agg #[.bool a0_0, .bool a0_1, .bool a0_2, .bool a0_3, .bool a0_4, .int .i64 a0_5]] ?_; (with_reducible refine (impl_safe.calls a0_0 a0_1 a0_2 a0_3 a0_4 a0_5 t504 t505 t506 t507 t508 t509 _ A58.out).mono ?_); rintro e w63 ⟨rfl, hb⟩; refine ⟨_, rfl, ?_⟩; replace BK490 := zB BK490 hb; replace BK491 := zB BK491 hb; replace HB := zS2 HB GE490 GE491 hb; clear hb; have hcz64 := zc6 BK490; have hcz65 := zc6 BK491))
     refine jQ (results_ct rfl _ _ gb491 23 #[.bool t504, .bool t505, .bool t506, .bool t507, .bool t508, .int .i64 t509] (0, 0) _ rfl (zP1 BK491 NB491_490) Try.underlying23 rfl zr) rfl ?_
     exact ⟨ze, zb2 HB GE490 GE491⟩
    ·rw [if_neg c57] at H
     have c57b0 : (a1 == 3) = false := beq_eq_false_iff_ne.mpr c57
     have c57b1 : (a1 != 3) = true := bne_iff_ne.mpr c57
     by_cases c66 : a1 = 4
     ·rw [if_pos c66] at H
      have c66b0 : (a1 == 4) = true := beq_iff_eq.mpr c66
      have c66b1 : (a1 != 4) = false := bne_eq_false_iff_eq.mpr c66
      clear c66
      by_cases c67 : a0_2 = true
      ·subst c67
       rw [if_pos rfl] at H
       by_cases c68 : a0_3 = true
       ·subst c68
        rw [if_pos rfl] at H
        simp only [jH, jK] at H
        obtain ⟨rfl, rfl, rfl, rfl, rfl, rfl, rfl⟩ := H
        go_enter Try.func67, Try.ntmps67
        go_wp2_with (first | ((with_reducible refine jJ (N := 2) rfl ?_); refine zE 2 #[.bool a0_0, .bool a0_1, .bool true, .bool true, .bool a0_4, .int .i64 a0_5] 23 ?_; intro gb490 hg w69 hbox hb; have BK490 := jA (hbox); have GW490 := zg0 hg HB; have GE490 := zg0 hg HB; replace HB := zS0 HB hb; clear hb hbox hg) | ((with_reducible refine jJ (N := 4) rfl ?_); refine zE 4 #[.bool false, .bool false, .bool false, .bool false, .bool false, .int .i64 0] 23 ?_; intro gb491 hg w70 hbox hb; have BK491 := jA (hbox); have GW491 := zg1 hg HB GE490; have GE491 := zg1 hg HB GE490; replace HB := zS1 HB GE490 hb; have NB490_491 := zn hg BK490; replace BK490 := zB BK490 hb; have NB491_490 := jA NB490_491.out.symm; clear hb hbox hg; have hnb71 := NB490_491.out; have hnc71 := NB491_490.out; have hcz72 := zc6 BK490; have hcz73 := zc6 BK491))
        refine jQ (results_ct rfl _ _ gb491 23 #[.bool false, .bool false, .bool false, .bool false, .bool false, .int .i64 0] (0, 0) _ rfl (zP0 BK491) Try.underlying23 rfl zr) rfl ?_
        exact ⟨ze, zb2 HB GE490 GE491⟩
       ·replace c68 := Bool.eq_false_iff.mpr c68
        subst c68
        rw [if_neg zfalse] at H
        simp only [jH, jK] at H
        obtain ⟨rfl, rfl, rfl, rfl, rfl, rfl, rfl⟩ := H
        go_enter Try.func67, Try.ntmps67
        go_wp2_with (first | ((with_reducible refine jJ (N := 2) rfl ?_); refine zE 2 #[.bool a0_0, .bool a0_1, .bool true, .bool false, .bool a0_4, .int .i64 a0_5] 23 ?_; intro gb490 hg w74 hbox hb; have BK490 := jA (hbox); have GW490 := zg0 hg HB; have GE490 := zg0 hg HB; replace HB := zS0 HB hb; clear hb hbox hg) | ((with_reducible refine jJ (N := 4) rfl ?_); refine zE 4 #[.bool false, .bool false, .bool false, .bool false, .bool false, .int .i64 0] 23 ?_; intro gb491 hg w75 hbox hb; have BK491 := jA (hbox); have GW491 := zg1 hg HB GE490; have GE491 := zg1 hg HB GE490; replace HB := zS1 HB GE490 hb; have NB490_491 := zn hg BK490; replace BK490 := zB BK490 hb; have NB491_490 := jA NB490_491.out.symm; clear hb hbox hg; have hnb76 := NB490_491.out; have hnc76 := NB491_490.out; have hcz77 := zc6 BK490; have hcz78 := zc6 BK491))
        refine jQ (results_ct rfl _ _ gb491 23 #[.bool a0_0, .bool a0_1, .bool true, .bool true, .bool a0_4, .int .i64 a0_5] (0, 0) _ rfl (zP1 BK491 NB491_490) Try.underlying23 rfl zr) rfl ?_
        exact ⟨ze, zb2 HB GE490 GE491⟩
      ·replace c67 := Bool.eq_false_iff.mpr c67
       subst c67
       rw [if_neg zfalse] at H
       simp only [jH, jK] at H
       obtain ⟨rfl, rfl, rfl, rfl, rfl, rfl, rfl⟩ := H
       go_enter Try.func67, Try.ntmps67
       go_wp2_with (first | ((with_reducible refine jJ (N := 2) rfl ?_); refine zE 2 #[.bool a0_0, .bool a0_1, .bool false, .bool a0_3, .bool a0_4, .int .i64 a0_5] 23 ?_; intro gb490 hg w79 hbox hb; have BK490 := jA (hbox); have GW490 := zg0 hg HB; have GE490 := zg0 hg HB; replace HB := zS0 HB hb; clear hb hbox hg) | ((with_reducible refine jJ (N := 4) rfl ?_); refine zE 4 #[.bool false, .bool false, .bool false, .bool false, .bool false, .int .i64 0] 23 ?_; intro gb491 hg w80 hbox hb; have BK491 := jA (hbox); have GW491 := zg1 hg HB GE490; have GE491 := zg1 hg HB GE490; replace HB := zS1 HB GE490 hb; have NB490_491 := zn hg BK490; replace BK490 := zB BK490 hb; have NB491_490 := jA NB490_491.out.symm; clear hb hbox hg; have hnb81 := NB490_491.out; have hnc81 := NB491_490.out; have hcz82 := zc6 BK490; have hcz83 := zc6 BK491))
       refine jQ (results_ct rfl _ _ gb491 23 #[.bool false, .bool false, .bool false, .bool false, .bool false, .int .i64 0] (0, 0) _ rfl (zP0 BK491) Try.underlying23 rfl zr) rfl ?_
       exact ⟨ze, zb2 HB GE490 GE491⟩
     ·rw [if_neg c66] at H
      have c66b0 : (a1 == 4) = false := beq_eq_false_iff_ne.mpr c66
      have c66b1 : (a1 != 4) = true := bne_iff_ne.mpr c66
      by_cases c84 : a1 = 5
      ·rw [if_pos c84] at H
       have c84b0 : (a1 == 5) = true := beq_iff_eq.mpr c84
       have c84b1 : (a1 != 5) = false := bne_eq_false_iff_eq.mpr c84
       clear c84
       by_cases c85 : a0_3 = true
       ·subst c85
        rw [if_pos rfl] at H
        simp only [jH, jK] at H
        obtain ⟨rfl, rfl, rfl, rfl, rfl, rfl, rfl⟩ := H
        go_enter Try.func67, Try.ntmps67
        go_wp2_with (first | ((with_reducible refine jJ (N := 2) rfl ?_); refine zE 2 #[.bool a0_0, .bool a0_1, .bool a0_2, .bool true, .bool a0_4, .int .i64 a0_5] 23 ?_; intro gb490 hg w86 hbox hb; have BK490 := jA (hbox); have GW490 := zg0 hg HB; have GE490 := zg0 hg HB; replace HB := zS0 HB hb; clear hb hbox hg) | ((with_reducible refine jJ (N := 4) rfl ?_); refine zE 4 #[.bool false, .bool false, .bool false, .bool false, .bool false, .int .i64 0] 23 ?_; intro gb491 hg w87 hbox hb; have BK491 := jA (hbox); have GW491 := zg1 hg HB GE490; have GE491 := zg1 hg HB GE490; replace HB := zS1 HB GE490 hb; have NB490_491 := zn hg BK490; replace BK490 := zB BK490 hb; have NB491_490 := jA NB490_491.out.symm; clear hb hbox hg; have hnb88 := NB490_491.out; have hnc88 := NB491_490.out; have hcz89 := zc6 BK490; have hcz90 := zc6 BK491))
        refine jQ (results_ct rfl _ _ gb491 23 #[.bool a0_0, .bool a0_1, .bool a0_2, .bool false, .bool a0_4, .int .i64 a0_5] (0, 0) _ rfl (zP1 BK491 NB491_490) Try.underlying23 rfl zr) rfl ?_
        exact ⟨ze, zb2 HB GE490 GE491⟩
       ·replace c85 := Bool.eq_false_iff.mpr c85
        subst c85
        rw [if_neg zfalse] at H
        simp only [jH, jK] at H
        obtain ⟨rfl, rfl, rfl, rfl, rfl, rfl, rfl⟩ := H
        go_enter Try.func67, Try.ntmps67
        go_wp2_with (first | ((with_reducible refine jJ (N := 2) rfl ?_); refine zE 2 #[.bool a0_0, .bool a0_1, .bool a0_2, .bool false, .bool a0_4, .int .i64 a0_5] 23 ?_; intro gb490 hg w91 hbox hb; have BK490 := jA (hbox); have GW490 := zg0 hg HB; have GE490 := zg0 hg HB; replace HB := zS0 HB hb; clear hb hbox hg) | ((with_reducible refine jJ (N := 4) rfl ?_); refine zE 4 #[.bool false, .bool false, .bool false, .bool false, .bool false, .int .i64 0] 23 ?_; intro gb491 hg w92 hbox hb; have BK491 := jA (hbox); have GW491 := zg1 hg HB GE490; have GE491 := zg1 hg HB GE490; replace HB := zS1 HB GE490 hb; have NB490_491 := zn hg BK490; replace BK490 := zB BK490 hb; have NB491_490 := jA NB490_491.out.symm; clear hb hbox hg; have hnb93 := NB490_491.out; have hnc93 := NB491_490.out; have hcz94 := zc6 BK490; have hcz95 := zc6 BK491))
        refine jQ (results_ct rfl _ _ gb491 23 #[.bool false, .bool false, .bool false, .bool false, .bool false, .int .i64 0] (0, 0) _ rfl (zP0 BK491) Try.underlying23 rfl zr) rfl ?_
        exact ⟨ze, zb2 HB GE490 GE491⟩
      ·rw [if_neg c84] at H
       have c84b0 : (a1 == 5) = false := beq_eq_false_iff_ne.mpr c84
       have c84b1 : (a1 != 5) = true := bne_iff_ne.mpr c84
       by_cases c96 : a1 = 6
       ·rw [if_pos c96] at H
        have c96b0 : (a1 == 6) = true := beq_iff_eq.mpr c96
        have c96b1 : (a1 != 6) = false := bne_eq_false_iff_eq.mpr c96
        clear c96
        replace H := jC.mp H
        obtain ⟨⟨t510, t511, t512, t513, t514, t515⟩, A970, H⟩ := H
        try dsimp only at H
        have A97 := jA A970
        clear A970
        simp only [jH, jK] at H
        obtain ⟨rfl, rfl, rfl, rfl, rfl, rfl, rfl⟩ := H
        go_enter Try.func67, Try.ntmps67
        go_upto_region 27 with (first | ((with_reducible refine jJ (N := 2) rfl ?_); refine zE 2 #[.bool a0_0, .bool a0_1, .bool a0_2, .bool a0_3, .bool a0_4, .int .i64 a0_5] 23 ?_; intro gb490 hg w98 hbox hb; have BK490 := jA (hbox); have GW490 := zg0 hg HB; have GE490 := zg0 hg HB; replace HB := zS0 HB hb; clear hb hbox hg) | ((with_reducible refine jJ (N := 4) rfl ?_); refine zE 4 #[.bool false, .bool false, .bool false, .bool false, .bool false, .int .i64 0] 23 ?_; intro gb491 hg w99 hbox hb; have BK491 := jA (hbox); have GW491 := zg1 hg HB GE490; have GE491 := zg1 hg HB GE490; replace HB := zS1 HB GE490 hb; have NB490_491 := zn hg BK490; replace BK490 := zB BK490 hb; have NB491_490 := jA NB490_491.out.symm; clear hb hbox hg; have hnb100 := NB490_491.out; have hnc100 := NB491_490.out; have hcz101 := zc6 BK490) | ((with_reducible refine jG (f := 83) rfl ?_); refine zL (some 73) Try.func83 #[.agg #[.bool a0_0, .bool a0_1, .bool a0_2, .bool a0_3, .bool a0_4, .int .i64 a0_5]] ?_; (with_reducible refine (impl_safe.calls a0_0 a0_1 a0_2 a0_3 a0_4 a0_5 t510 t511 t512 t513 t514 t515 _ A97.out).mono ?_); rintro e w102 ⟨rfl, hb⟩; refine ⟨_, rfl, ?_⟩; replace BK490 := zB BK490 hb; replace BK491 := zB BK491 hb; replace HB := zS2 HB GE490 GE491 hb; clear hb; obtain ⟨hcz103_0, hcz103_1, hcz103_2, hcz103_3, hcz103_4, hcz103_5, hfz103_0, hfz103_1, hfz103_2, hfz103_3, hfz103_4, hfz103_5⟩ := zc6 BK490; obtain ⟨hcz104_0, hcz104_1, hcz104_2, hcz104_3, hcz104_4, hcz104_5, hfz104_0, hfz104_1, hfz104_2, hfz104_3, hfz104_4, hfz104_5⟩ := zc6 BK491))
        generalize hq_ : World.setCell _ ⟨gb490, 5, none⟩ (.int .i64 t515) = wq
        replace BK490 : Aside0 (wq.heap[gb490]? = some (.cells #[.bool t510, .bool t511, .bool t512, .bool t513, .bool t514, .int .i64 t515] 23 (0, 0))) := ⟨by rw [← hq_]; exact (blk_set (blk_set (blk_set (blk_set (blk_set (blk_set BK490.out 0 _) 1 _) 2 _) 3 _) 4 _) 5 _)⟩
        replace BK491 : Aside0 (wq.heap[gb491]? = some (.cells #[.bool false, .bool false, .bool false, .bool false, .bool false, .int .i64 0] 23 (0, 0))) := ⟨by rw [← hq_]; exact (blk_far (blk_far (blk_far (blk_far (blk_far (blk_far BK491.out NB491_490.out _) NB491_490.out _) NB491_490.out _) NB491_490.out _) NB491_490.out _) NB491_490.out _)⟩
        replace HB : Aside0 (Below w.heap.size w wq) := ⟨by rw [← hq_]; (repeat (first | (with_reducible first | exact HB.out | apply below_alloc | apply pw_below_drewN | apply below_drew1 | refine below_set ?_ GE490.out | refine below_set ?_ GE491.out) | exact HB.out))⟩
        clear hq_ hcz103_0 hcz103_1 hcz103_2 hcz103_3 hcz103_4 hcz103_5 hcz104_0 hcz104_1 hcz104_2 hcz104_3 hcz104_4 hcz104_5 hfz103_0 hfz103_1 hfz103_2 hfz103_3 hfz103_4 hfz103_5 hfz104_0 hfz104_1 hfz104_2 hfz104_3 hfz104_4 hfz104_5
        have hcqgb490_0 : wq.cell? ⟨gb490, 0, none⟩ = some (.bool t510) := (jL BK490.out 0).trans rfl
        have hcqgb490_1 : wq.cell? ⟨gb490, 1, none⟩ = some (.bool t511) := (jL BK490.out 1).trans rfl
        have hcqgb490_2 : wq.cell? ⟨gb490, 2, none⟩ = some (.bool t512) := (jL BK490.out 2).trans rfl
        have hcqgb490_3 : wq.cell? ⟨gb490, 3, none⟩ = some (.bool t513) := (jL BK490.out 3).trans rfl
        have hcqgb490_4 : wq.cell? ⟨gb490, 4, none⟩ = some (.bool t514) := (jL BK490.out 4).trans rfl
        have hcqgb490_5 : wq.cell? ⟨gb490, 5, none⟩ = some (.int .i64 t515) := (jL BK490.out 5).trans rfl
        have hfqgb490 := jW BK490.out
        have hcqgb491_0 : wq.cell? ⟨gb491, 0, none⟩ = some (.bool false) := (jL BK491.out 0).trans rfl
        have hcqgb491_1 : wq.cell? ⟨gb491, 1, none⟩ = some (.bool false) := (jL BK491.out 1).trans rfl
        have hcqgb491_2 : wq.cell? ⟨gb491, 2, none⟩ = some (.bool false) := (jL BK491.out 2).trans rfl
        have hcqgb491_3 : wq.cell? ⟨gb491, 3, none⟩ = some (.bool false) := (jL BK491.out 3).trans rfl
        have hcqgb491_4 : wq.cell? ⟨gb491, 4, none⟩ = some (.bool false) := (jL BK491.out 4).trans rfl
        have hcqgb491_5 : wq.cell? ⟨gb491, 5, none⟩ = some (.int .i64 0) := (jL BK491.out 5).trans rfl
        have hfqgb491 := jW BK491.out
        go_wp2_with (fail)
        refine jQ (results_ct rfl _ _ gb491 23 #[.bool t510, .bool t511, .bool t512, .bool t513, .bool true, .int .i64 t515] (0, 0) _ rfl (zP1 BK491 NB491_490) Try.underlying23 rfl zr) rfl ?_
        exact ⟨ze, zb2 HB GE490 GE491⟩
       ·rw [if_neg c96] at H
        have c96b0 : (a1 == 6) = false := beq_eq_false_iff_ne.mpr c96
        have c96b1 : (a1 != 6) = true := bne_iff_ne.mpr c96
        by_cases c105 : a1 = 7
        ·rw [if_pos c105] at H
         have c105b0 : (a1 == 7) = true := beq_iff_eq.mpr c105
         have c105b1 : (a1 != 7) = false := bne_eq_false_iff_eq.mpr c105
         clear c105
         simp only [jH, jK] at H
         obtain ⟨rfl, rfl, rfl, rfl, rfl, rfl, rfl⟩ := H
         go_enter Try.func67, Try.ntmps67
         go_wp2_with (first | ((with_reducible refine jJ (N := 2) rfl ?_); refine zE 2 #[.bool a0_0, .bool a0_1, .bool a0_2, .bool a0_3, .bool a0_4, .int .i64 a0_5] 23 ?_; intro gb490 hg w106 hbox hb; have BK490 := jA (hbox); have GW490 := zg0 hg HB; have GE490 := zg0 hg HB; replace HB := zS0 HB hb; clear hb hbox hg) | ((with_reducible refine jJ (N := 4) rfl ?_); refine zE 4 #[.bool false, .bool false, .bool false, .bool false, .bool false, .int .i64 0] 23 ?_; intro gb491 hg w107 hbox hb; have BK491 := jA (hbox); have GW491 := zg1 hg HB GE490; have GE491 := zg1 hg HB GE490; replace HB := zS1 HB GE490 hb; have NB490_491 := zn hg BK490; replace BK490 := zB BK490 hb; have NB491_490 := jA NB490_491.out.symm; clear hb hbox hg; have hnb108 := NB490_491.out; have hnc108 := NB491_490.out; have hcz109 := zc6 BK490; have hcz110 := zc6 BK491))
         refine jQ (results_ct rfl _ _ gb491 23 #[.bool a0_0, .bool a0_1, .bool a0_2, .bool a0_3, .bool a0_4, .int .i64 0] (0, 0) _ rfl (zP1 BK491 NB491_490) Try.underlying23 rfl zr) rfl ?_
         exact ⟨ze, zb2 HB GE490 GE491⟩
        ·rw [if_neg c105] at H
         have c105b0 : (a1 == 7) = false := beq_eq_false_iff_ne.mpr c105
         have c105b1 : (a1 != 7) = true := bne_iff_ne.mpr c105
         by_cases c111 : a1 = 8
         ·rw [if_pos c111] at H
          have c111b0 : (a1 == 8) = true := beq_iff_eq.mpr c111
          have c111b1 : (a1 != 8) = false := bne_eq_false_iff_eq.mpr c111
          clear c111
          obtain ⟨ji112, hji112⟩ : ∃ j_ : Int, (mn (wrap64 (a0_5 + 1)) 4) = j_ := ⟨_, rfl⟩
          replace H : (if (ji112) > 3 then ((impl_safe.f a0_0 a0_1 a0_2 a0_3 a0_4 (ji112)).bind fun bt516 => (some (bt516.1, bt516.2.1, bt516.2.2.1, bt516.2.2.2.1, bt516.2.2.2.2.1, bt516.2.2.2.2.2, 0))) else (some (a0_0, a0_1, a0_2, a0_3, a0_4, ji112, 0))) = some (r1, r2, r3, r4, r5, r6, r7) := by first | (rw [hji112] at H; exact H) | (simp only [hji112] at H ⊢; exact H)
          (try (have hji112h : ji112 ≤ 4 := by (rw [← hji112]; unfold mn; (repeat' split) <;> omega)))
          (try (have hji112g : ji112 ≤ 64 := by omega))
          have hji112_ : (if 4 < (wrap64 (a0_5 + 1)) then 4 else (wrap64 (a0_5 + 1))) = ji112 := hji112
          by_cases c113 : (ji112) > 3
          ·rw [if_pos c113] at H
           have c113b0 : decide (3 < (ji112)) = true := jI c113
           clear c113
           replace H := jC.mp H
           obtain ⟨⟨t516, t517, t518, t519, t520, t521⟩, A1140, H⟩ := H
           try dsimp only at H
           have A114 := jA A1140
           clear A1140
           simp only [jH, jK] at H
           obtain ⟨rfl, rfl, rfl, rfl, rfl, rfl, rfl⟩ := H
           go_enter Try.func67, Try.ntmps67
           go_wp2_with (first | ((with_reducible refine jJ (N := 2) rfl ?_); refine zE 2 #[.bool a0_0, .bool a0_1, .bool a0_2, .bool a0_3, .bool a0_4, .int .i64 a0_5] 23 ?_; intro gb490 hg w115 hbox hb; have BK490 := jA (hbox); have GW490 := zg0 hg HB; have GE490 := zg0 hg HB; replace HB := zS0 HB hb; clear hb hbox hg) | ((with_reducible refine jJ (N := 4) rfl ?_); refine zE 4 #[.bool false, .bool false, .bool false, .bool false, .bool false, .int .i64 0] 23 ?_; intro gb491 hg w116 hbox hb; have BK491 := jA (hbox); have GW491 := zg1 hg HB GE490; have GE491 := zg1 hg HB GE490; replace HB := zS1 HB GE490 hb; have NB490_491 := zn hg BK490; replace BK490 := zB BK490 hb; have NB491_490 := jA NB490_491.out.symm; clear hb hbox hg; have hnb117 := NB490_491.out; have hnc117 := NB491_490.out; have hcz118 := zc6 BK490) | ((with_reducible refine jG (f := 83) rfl ?_); refine goesL_ (some 89) rfl rfl Try.func83 zr rfl #[.agg #[.bool a0_0, .bool a0_1, .bool a0_2, .bool a0_3, .bool a0_4, .int .i64 ji112]] rfl (by (try simp only [List.map_toArray, List.map_cons, List.map_nil]); first | done | (simp only [hji112]; rfl) | rfl | (simp only [List.length_drop, List.length_take]; rfl)) ?_; (with_reducible refine (impl_safe.calls a0_0 a0_1 a0_2 a0_3 a0_4 ji112 t516 t517 t518 t519 t520 t521 _ A114.out).mono ?_); rintro e w119 ⟨rfl, hb⟩; refine ⟨_, rfl, ?_⟩; replace BK490 := jA (jU (g := gb490) (o := .cells #[.bool a0_0, .bool a0_1, .bool a0_2, .bool a0_3, .bool a0_4, .int .i64 ji112] 23 (0, 0)) (zP0 BK490) hb); replace BK491 := jA (jU (g := gb491) (o := .cells #[.bool false, .bool false, .bool false, .bool false, .bool false, .int .i64 0] 23 (0, 0)) (zQ1 BK491 NB491_490) hb); replace HB := zS2 HB GE490 GE491 hb; clear hb; have hcz120 := zc6 BK490; have hcz121 := zc6 BK491))
           refine jQ (results_ct rfl _ _ gb491 23 #[.bool t516, .bool t517, .bool t518, .bool t519, .bool t520, .int .i64 t521] (0, 0) _ rfl (zP1 BK491 NB491_490) Try.underlying23 rfl zr) rfl ?_
           exact ⟨by first | rfl | (simp [errW_none, errW_some] <;> rfl) | (simp only [← hji112]; first | rfl | (simp [errW_none, errW_some] <;> rfl)) | (simp [*, errW_none, errW_some] <;> rfl), zb2 HB GE490 GE491⟩
          ·rw [if_neg c113] at H
           have c113b0 : decide (3 < (ji112)) = false := jS c113
           clear c113
           simp only [jH, jK] at H
           obtain ⟨rfl, rfl, rfl, rfl, rfl, rfl, rfl⟩ := H
           go_enter Try.func67, Try.ntmps67
           go_wp2_with (first | ((with_reducible refine jJ (N := 2) rfl ?_); refine zE 2 #[.bool a0_0, .bool a0_1, .bool a0_2, .bool a0_3, .bool a0_4, .int .i64 a0_5] 23 ?_; intro gb490 hg w122 hbox hb; have BK490 := jA (hbox); have GW490 := zg0 hg HB; have GE490 := zg0 hg HB; replace HB := zS0 HB hb; clear hb hbox hg) | ((with_reducible refine jJ (N := 4) rfl ?_); refine zE 4 #[.bool false, .bool false, .bool false, .bool false, .bool false, .int .i64 0] 23 ?_; intro gb491 hg w123 hbox hb; have BK491 := jA (hbox); have GW491 := zg1 hg HB GE490; have GE491 := zg1 hg HB GE490; replace HB := zS1 HB GE490 hb; have NB490_491 := zn hg BK490; replace BK490 := zB BK490 hb; have NB491_490 := jA NB490_491.out.symm; clear hb hbox hg; have hnb124 := NB490_491.out; have hnc124 := NB491_490.out; have hcz125 := zc6 BK490; have hcz126 := zc6 BK491))
           refine jQ (results_ct rfl _ _ gb491 23 #[.bool a0_0, .bool a0_1, .bool a0_2, .bool a0_3, .bool a0_4, .int .i64 ji112] (0, 0) _ rfl (zP1 BK491 NB491_490) Try.underlying23 rfl zr) rfl ?_
           exact ⟨by first | rfl | (simp [errW_none, errW_some] <;> rfl) | (simp only [← hji112]; first | rfl | (simp [errW_none, errW_some] <;> rfl)) | (simp [*, errW_none, errW_some] <;> rfl), zb2 HB GE490 GE491⟩
         ·rw [if_neg c111] at H
          have c111b0 : (a1 == 8) = false := beq_eq_false_iff_ne.mpr c111
          have c111b1 : (a1 != 8) = true := bne_iff_ne.mpr c111
          by_cases c127 : a1 = 9
          ·rw [if_pos c127] at H
           have c127b0 : (a1 == 9) = true := beq_iff_eq.mpr c127
           have c127b1 : (a1 != 9) = false := bne_eq_false_iff_eq.mpr c127
           clear c127
           by_cases c128 : a0_4 = true
           ·subst c128
            rw [if_pos rfl] at H
            by_cases c129 : a0_0 = true
            ·subst c129
             rw [if_pos rfl] at H
             simp only [jH, jK] at H
             obtain ⟨rfl, rfl, rfl, rfl, rfl, rfl, rfl⟩ := H
             go_enter Try.func67, Try.ntmps67
             go_wp2_with (first | ((with_reducible refine jJ (N := 2) rfl ?_); refine zE 2 #[.bool true, .bool a0_1, .bool a0_2, .bool a0_3, .bool true, .int .i64 a0_5] 23 ?_; intro gb490 hg w130 hbox hb; have BK490 := jA (hbox); have GW490 := zg0 hg HB; have GE490 := zg0 hg HB; replace HB := zS0 HB hb; clear hb hbox hg) | ((with_reducible refine jJ (N := 4) rfl ?_); refine zE 4 #[.bool false, .bool false, .bool false, .bool false, .bool false, .int .i64 0] 23 ?_; intro gb491 hg w131 hbox hb; have BK491 := jA (hbox); have GW491 := zg1 hg HB GE490; have GE491 := zg1 hg HB GE490; replace HB := zS1 HB GE490 hb; have NB490_491 := zn hg BK490; replace BK490 := zB BK490 hb; have NB491_490 := jA NB490_491.out.symm; clear hb hbox hg; have hnb132 := NB490_491.out; have hnc132 := NB491_490.out; have hcz133 := zc6 BK490; have hcz134 := zc6 BK491))
             refine jQ (results_ct rfl _ _ gb491 23 #[.bool false, .bool false, .bool false, .bool false, .bool false, .int .i64 0] (0, 0) _ rfl (zP0 BK491) Try.underlying23 rfl zr) rfl ?_
             exact ⟨ze, zb2 HB GE490 GE491⟩
            ·replace c129 := Bool.eq_false_iff.mpr c129
             subst c129
             rw [if_neg zfalse] at H
             by_cases c135 : a0_1 = true
             ·subst c135
              rw [if_pos rfl] at H
              simp only [jH, jK] at H
              obtain ⟨rfl, rfl, rfl, rfl, rfl, rfl, rfl⟩ := H
              go_enter Try.func67, Try.ntmps67
              go_wp2_with (first | ((with_reducible refine jJ (N := 2) rfl ?_); refine zE 2 #[.bool false, .bool true, .bool a0_2, .bool a0_3, .bool true, .int .i64 a0_5] 23 ?_; intro gb490 hg w136 hbox hb; have BK490 := jA (hbox); have GW490 := zg0 hg HB; have GE490 := zg0 hg HB; replace HB := zS0 HB hb; clear hb hbox hg) | ((with_reducible refine jJ (N := 4) rfl ?_); refine zE 4 #[.bool false, .bool false, .bool false, .bool false, .bool false, .int .i64 0] 23 ?_; intro gb491 hg w137 hbox hb; have BK491 := jA (hbox); have GW491 := zg1 hg HB GE490; have GE491 := zg1 hg HB GE490; replace HB := zS1 HB GE490 hb; have NB490_491 := zn hg BK490; replace BK490 := zB BK490 hb; have NB491_490 := jA NB490_491.out.symm; clear hb hbox hg; have hnb138 := NB490_491.out; have hnc138 := NB491_490.out; have hcz139 := zc6 BK490; have hcz140 := zc6 BK491))
              refine jQ (results_ct rfl _ _ gb491 23 #[.bool false, .bool false, .bool false, .bool false, .bool false, .int .i64 0] (0, 0) _ rfl (zP0 BK491) Try.underlying23 rfl zr) rfl ?_
              exact ⟨ze, zb2 HB GE490 GE491⟩
             ·replace c135 := Bool.eq_false_iff.mpr c135
              subst c135
              rw [if_neg zfalse] at H
              simp only [jH, jK] at H
              obtain ⟨rfl, rfl, rfl, rfl, rfl, rfl, rfl⟩ := H
              go_enter Try.func67, Try.ntmps67
              go_wp2_with (first | ((with_reducible refine jJ (N := 2) rfl ?_); refine zE 2 #[.bool false, .bool false, .bool a0_2, .bool a0_3, .bool true, .int .i64 a0_5] 23 ?_; intro gb490 hg w141 hbox hb; have BK490 := jA (hbox); have GW490 := zg0 hg HB; have GE490 := zg0 hg HB; replace HB := zS0 HB hb; clear hb hbox hg) | ((with_reducible refine jJ (N := 4) rfl ?_); refine zE 4 #[.bool false, .bool false, .bool false, .bool false, .bool false, .int .i64 0] 23 ?_; intro gb491 hg w142 hbox hb; have BK491 := jA (hbox); have GW491 := zg1 hg HB GE490; have GE491 := zg1 hg HB GE490; replace HB := zS1 HB GE490 hb; have NB490_491 := zn hg BK490; replace BK490 := zB BK490 hb; have NB491_490 := jA NB490_491.out.symm; clear hb hbox hg; have hnb143 := NB490_491.out; have hnc143 := NB491_490.out; have hcz144 := zc6 BK490; have hcz145 := zc6 BK491))
              refine jQ (results_ct rfl _ _ gb491 23 #[.bool false, .bool false, .bool a0_2, .bool a0_3, .bool false, .int .i64 a0_5] (0, 0) _ rfl (zP1 BK491 NB491_490) Try.underlying23 rfl zr) rfl ?_
              exact ⟨ze, zb2 HB GE490 GE491⟩
           ·replace c128 := Bool.eq_false_iff.mpr c128
            subst c128
            rw [if_neg zfalse] at H
            simp only [jH, jK] at H
            obtain ⟨rfl, rfl, rfl, rfl, rfl, rfl, rfl⟩ := H
            go_enter Try.func67, Try.ntmps67
            go_wp2_with (first | ((with_reducible refine jJ (N := 2) rfl ?_); refine zE 2 #[.bool a0_0, .bool a0_1, .bool a0_2, .bool a0_3, .bool false, .int .i64 a0_5] 23 ?_; intro gb490 hg w146 hbox hb; have BK490 := jA (hbox); have GW490 := zg0 hg HB; have GE490 := zg0 hg HB; replace HB := zS0 HB hb; clear hb hbox hg) | ((with_reducible refine jJ (N := 4) rfl ?_); refine zE 4 #[.bool false, .bool false, .bool false, .bool false, .bool false, .int .i64 0] 23 ?_; intro gb491 hg w147 hbox hb; have BK491 := jA (hbox); have GW491 := zg1 hg HB GE490; have GE491 := zg1 hg HB GE490; replace HB := zS1 HB GE490 hb; have NB490_491 := zn hg BK490; replace BK490 := zB BK490 hb; have NB491_490 := jA NB490_491.out.symm; clear hb hbox hg; have hnb148 := NB490_491.out; have hnc148 := NB491_490.out; have hcz149 := zc6 BK490; have hcz150 := zc6 BK491))
            refine jQ (results_ct rfl _ _ gb491 23 #[.bool false, .bool false, .bool false, .bool false, .bool false, .int .i64 0] (0, 0) _ rfl (zP0 BK491) Try.underlying23 rfl zr) rfl ?_
            exact ⟨ze, zb2 HB GE490 GE491⟩
          ·rw [if_neg c127] at H
           have c127b0 : (a1 == 9) = false := beq_eq_false_iff_ne.mpr c127
           have c127b1 : (a1 != 9) = true := bne_iff_ne.mpr c127
           simp only [jH, jK] at H
           obtain ⟨rfl, rfl, rfl, rfl, rfl, rfl, rfl⟩ := H
           go_enter Try.func67, Try.ntmps67
           go_wp2_with (first | ((with_reducible refine jJ (N := 2) rfl ?_); refine zE 2 #[.bool a0_0, .bool a0_1, .bool a0_2, .bool a0_3, .bool a0_4, .int .i64 a0_5] 23 ?_; intro gb490 hg w151 hbox hb; have BK490 := jA (hbox); have GW490 := zg0 hg HB; have GE490 := zg0 hg HB; replace HB := zS0 HB hb; clear hb hbox hg) | ((with_reducible refine jJ (N := 4) rfl ?_); refine zE 4 #[.bool false, .bool false, .bool false, .bool false, .bool false, .int .i64 0] 23 ?_; intro gb491 hg w152 hbox hb; have BK491 := jA (hbox); have GW491 := zg1 hg HB GE490; have GE491 := zg1 hg HB GE490; replace HB := zS1 HB GE490 hb; have NB490_491 := zn hg BK490; replace BK490 := zB BK490 hb; have NB491_490 := jA NB490_491.out.symm; clear hb hbox hg; have hnb153 := NB491_490.out; have hnc153 := NB490_491.out; have hcz154 := zc6 BK491))
           refine jQ (results_ct rfl _ _ gb491 23 #[.bool false, .bool false, .bool false, .bool false, .bool false, .int .i64 0] (0, 0) _ rfl (zP0 BK491) Try.underlying23 rfl zr) rfl ?_
           exact ⟨ze, zb2 HB GE490 GE491⟩

end Go.Proofs.Ythieppjmjgijfaa.PFnProofs
