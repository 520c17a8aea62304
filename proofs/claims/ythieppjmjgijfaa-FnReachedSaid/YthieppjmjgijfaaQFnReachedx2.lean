/- Functions and contracts that FnReached reaches (3 of 22). -/
import Derived.Test.YthieppjmjgijfaaQFnReachedx1
namespace Go.Proofs.Ythieppjmjgijfaa.PFnReached
open Go.RowKit Go.Proofs.YthieppjmjgijfaaW.PrintWords Go.Proofs.YthieppjmjgijfaaW.PrintLast Go.Proofs.YthieppjmjgijfaaW.PrintMore
attribute [local go_sem] max2_int min2_int max_two min_two max_three min_three max_four min_four   -- for this text's walks alone
set_option linter.unusedVariables false
set_option linter.unusedSimpArgs false

/-! ### impl_giveInput: function 67 -/
def impl_giveInput.f (a0_0 : Bool) (a0_1 : Bool) (a0_2 : Bool) (a0_3 : Bool) (a0_4 : Bool) (a0_5 : Int) (a1 : Int) : Option (Bool × Bool × Bool × Bool × Bool × Int × Int) := if a1 = 0 then (if a0_0 = true then ((impl_safe.f (!a0_0) a0_1 a0_2 a0_3 a0_4 a0_5).bind fun bt133 => (some (bt133.1, bt133.2.1, bt133.2.2.1, bt133.2.2.2.1, bt133.2.2.2.2.1, bt133.2.2.2.2.2, 0))) else (some (!a0_0, a0_1, a0_2, a0_3, a0_4, a0_5, 0))) else (if a1 = 1 then (if a0_1 = true then ((impl_safe.f a0_0 (!a0_1) a0_2 a0_3 a0_4 a0_5).bind fun bt139 => (some (bt139.1, bt139.2.1, bt139.2.2.1, bt139.2.2.2.1, bt139.2.2.2.2.1, bt139.2.2.2.2.2, 0))) else (some (a0_0, !a0_1, a0_2, a0_3, a0_4, a0_5, 0))) else (if a1 = 2 then (if a0_0 = true then (if a0_1 = true then (if a0_4 = true then (some (false, false, false, false, false, 0, 5)) else (some (a0_0, a0_1, true, false, a0_4, 0, 0))) else (some (false, false, false, false, false, 0, 5))) else (some (false, false, false, false, false, 0, 5))) else (if a1 = 3 then ((impl_safe.f a0_0 a0_1 a0_2 a0_3 a0_4 a0_5).bind fun bt145 => (some (bt145.1, bt145.2.1, bt145.2.2.1, bt145.2.2.2.1, bt145.2.2.2.2.1, bt145.2.2.2.2.2, 0))) else (if a1 = 4 then (if a0_2 = true then (if a0_3 = true then (some (false, false, false, false, false, 0, 5)) else (some (a0_0, a0_1, a0_2, true, a0_4, a0_5, 0))) else (some (false, false, false, false, false, 0, 5))) else (if a1 = 5 then (if a0_3 = true then (some (a0_0, a0_1, a0_2, false, a0_4, a0_5, 0)) else (some (false, false, false, false, false, 0, 5))) else (if a1 = 6 then ((impl_safe.f a0_0 a0_1 a0_2 a0_3 a0_4 a0_5).bind fun bt151 => (some (bt151.1, bt151.2.1, bt151.2.2.1, bt151.2.2.2.1, true, bt151.2.2.2.2.2, 0))) else (if a1 = 7 then (some (a0_0, a0_1, a0_2, a0_3, a0_4, 0, 0)) else (if a1 = 8 then (if (mn (wrap64 (a0_5 + 1)) 4) > 3 then ((impl_safe.f a0_0 a0_1 a0_2 a0_3 a0_4 (mn (wrap64 (a0_5 + 1)) 4)).bind fun bt157 => (some (bt157.1, bt157.2.1, bt157.2.2.1, bt157.2.2.2.1, bt157.2.2.2.2.1, bt157.2.2.2.2.2, 0))) else (some (a0_0, a0_1, a0_2, a0_3, a0_4, mn (wrap64 (a0_5 + 1)) 4, 0))) else (if a1 = 9 then (if a0_4 = true then (if a0_0 = true then (some (false, false, false, false, false, 0, 5)) else (if a0_1 = true then (some (false, false, false, false, false, 0, 5)) else (some (a0_0, a0_1, a0_2, a0_3, false, a0_5, 0)))) else (some (false, false, false, false, false, 0, 5))) else (some (false, false, false, false, false, 0, 2)))))))))))
set_option maxHeartbeats 8000000 in
set_option maxRecDepth 100000 in
theorem impl_giveInput.calls (a0_0 : Bool) (a0_1 : Bool) (a0_2 : Bool) (a0_3 : Bool) (a0_4 : Bool) (a0_5 : Int) (a1 : Int) (r1 : Bool) (r2 : Bool) (r3 : Bool) (r4 : Bool) (r5 : Bool) (r6 : Int) (r7 : Int) (w : World) (h : impl_giveInput.f a0_0 a0_1 a0_2 a0_3 a0_4 a0_5 a1 = some (r1, r2, r3, r4, r5, r6, r7)) :
  Calls Try.prog 67 #[.agg #[.bool a0_0, .bool a0_1, .bool a0_2, .bool a0_3, .bool a0_4, .int .i64 a0_5], .int .i64 a1] w fun e w' => e = .returned (.tuple #[.agg #[.bool r1, .bool r2, .bool r3, .bool r4, .bool r5, .int .i64 r6], .int .i64 r7]) ∧ Below w.heap.size w w' := by
 have hu23 := Try.underlying23
 have HB := jA (Below.refl w.heap.size w)
 have H := h
 unfold impl_giveInput.f at H
 clear h
 by_cases c3 : a1 = 0
 ·rw [if_pos c3] at H
  have c3b0 : (a1 == 0) = true := beq_iff_eq.mpr c3
  have c3b1 : (a1 != 0) = false := bne_eq_false_iff_eq.mpr c3
  clear c3
  by_cases c4 : a0_0 = true
  ·subst c4
   rw [if_pos rfl] at H
   replace H := jD.mp H
   obtain ⟨⟨t133, t134, t135, t136, t137, t138⟩, A50, H⟩ := H
   try dsimp only at H
   have A5 := jA A50
   clear A50
   simp only [jI, jM] at H
   obtain ⟨rfl, rfl, rfl, rfl, rfl, rfl, rfl⟩ := H
   go_enter Try.func67, Try.ntmps67
   go_wp2_with (first | ((with_reducible refine jK (N := 2) rfl ?_); refine zE 2 #[.bool true, .bool a0_1, .bool a0_2, .bool a0_3, .bool a0_4, .int .i64 a0_5] 23 ?_; intro gb131 hg w6 hbox hb; have BK131 := jA (hbox); have GW131 := zg0 hg HB; have GE131 := zg0 hg HB; replace HB := zS0 HB hb; clear hb hbox hg) | ((with_reducible refine jK (N := 4) rfl ?_); refine zE 4 #[.bool false, .bool false, .bool false, .bool false, .bool false, .int .i64 0] 23 ?_; intro gb132 hg w7 hbox hb; have BK132 := jA (hbox); have GW132 := zg1 hg HB GE131; have GE132 := zg1 hg HB GE131; replace HB := zS1 HB GE131 hb; have NB131_132 := zn hg BK131; replace BK131 := zB BK131 hb; have NB132_131 := jA NB131_132.out.symm; clear hb hbox hg; have hnb8 := NB131_132.out; have hnc8 := NB132_131.out; have hcz9 := zc6 BK131) | ((with_reducible refine jH (f := 83) rfl ?_); refine zL (some 18) Try.func83 #[.agg #[.bool (!true), .bool a0_1, .bool a0_2, .bool a0_3, .bool a0_4, .int .i64 a0_5]] ?_; (with_reducible refine (impl_safe.calls (!true) a0_1 a0_2 a0_3 a0_4 a0_5 t133 t134 t135 t136 t137 t138 _ A5.out).mono ?_); rintro e w10 ⟨rfl, hb⟩; refine ⟨_, rfl, ?_⟩; replace BK131 := jA (blk_below (g := gb131) (o := .cells #[.bool (!true), .bool a0_1, .bool a0_2, .bool a0_3, .bool a0_4, .int .i64 a0_5] 23 (0, 0)) (zP0 BK131) hb); replace BK132 := jA (blk_below (g := gb132) (o := .cells #[.bool false, .bool false, .bool false, .bool false, .bool false, .int .i64 0] 23 (0, 0)) (zQ1 BK132 NB132_131) hb); replace HB := zS2 HB GE131 GE132 hb; clear hb; have hcz11 := zc6 BK131; have hcz12 := zc6 BK132))
   refine jT (results_ct rfl _ _ gb132 23 #[.bool t133, .bool t134, .bool t135, .bool t136, .bool t137, .int .i64 t138] (0, 0) _ rfl (zP1 BK132 NB132_131) Try.underlying23 rfl zr) rfl ?_
   exact ⟨ze, zb2 HB GE131 GE132⟩
  ·replace c4 := Bool.eq_false_iff.mpr c4
   subst c4
   rw [if_neg zfalse] at H
   simp only [jI, jM] at H
   obtain ⟨rfl, rfl, rfl, rfl, rfl, rfl, rfl⟩ := H
   go_enter Try.func67, Try.ntmps67
   go_wp2_with (first | ((with_reducible refine jK (N := 2) rfl ?_); refine zE 2 #[.bool false, .bool a0_1, .bool a0_2, .bool a0_3, .bool a0_4, .int .i64 a0_5] 23 ?_; intro gb131 hg w13 hbox hb; have BK131 := jA (hbox); have GW131 := zg0 hg HB; have GE131 := zg0 hg HB; replace HB := zS0 HB hb; clear hb hbox hg) | ((with_reducible refine jK (N := 4) rfl ?_); refine zE 4 #[.bool false, .bool false, .bool false, .bool false, .bool false, .int .i64 0] 23 ?_; intro gb132 hg w14 hbox hb; have BK132 := jA (hbox); have GW132 := zg1 hg HB GE131; have GE132 := zg1 hg HB GE131; replace HB := zS1 HB GE131 hb; have NB131_132 := zn hg BK131; replace BK131 := zB BK131 hb; have NB132_131 := jA NB131_132.out.symm; clear hb hbox hg; have hnb15 := NB131_132.out; have hnc15 := NB132_131.out; have hcz16 := zc6 BK131; have hcz17 := zc6 BK132))
   refine jT (results_ct rfl _ _ gb132 23 #[.bool (!false), .bool a0_1, .bool a0_2, .bool a0_3, .bool a0_4, .int .i64 a0_5] (0, 0) _ rfl (zP1 BK132 NB132_131) Try.underlying23 rfl zr) rfl ?_
   exact ⟨ze, zb2 HB GE131 GE132⟩
 ·rw [if_neg c3] at H
  have c3b0 : (a1 == 0) = false := beq_eq_false_iff_ne.mpr c3
  have c3b1 : (a1 != 0) = true := bne_iff_ne.mpr c3
  by_cases c18 : a1 = 1
  ·rw [if_pos c18] at H
   have c18b0 : (a1 == 1) = true := beq_iff_eq.mpr c18
   have c18b1 : (a1 != 1) = false := bne_eq_false_iff_eq.mpr c18
   clear c18
   by_cases c19 : a0_1 = true
   ·subst c19
    rw [if_pos rfl] at H
    replace H := jD.mp H
    obtain ⟨⟨t139, t140, t141, t142, t143, t144⟩, A200, H⟩ := H
    try dsimp only at H
    have A20 := jA A200
    clear A200
    simp only [jI, jM] at H
    obtain ⟨rfl, rfl, rfl, rfl, rfl, rfl, rfl⟩ := H
    go_enter Try.func67, Try.ntmps67
    go_wp2_with (first | ((with_reducible refine jK (N := 2) rfl ?_); refine zE 2 #[.bool a0_0, .bool true, .bool a0_2, .bool a0_3, .bool a0_4, .int .i64 a0_5] 23 ?_; intro gb131 hg w21 hbox hb; have BK131 := jA (hbox); have GW131 := zg0 hg HB; have GE131 := zg0 hg HB; replace HB := zS0 HB hb; clear hb hbox hg) | ((with_reducible refine jK (N := 4) rfl ?_); refine zE 4 #[.bool false, .bool false, .bool false, .bool false, .bool false, .int .i64 0] 23 ?_; intro gb132 hg w22 hbox hb; have BK132 := jA (hbox); have GW132 := zg1 hg HB GE131; have GE132 := zg1 hg HB GE131; replace HB := zS1 HB GE131 hb; have NB131_132 := zn hg BK131; replace BK131 := zB BK131 hb; have NB132_131 := jA NB131_132.out.symm; clear hb hbox hg; have hnb23 := NB131_132.out; have hnc23 := NB132_131.out; have hcz24 := zc6 BK131) | ((with_reducible refine jH (f := 83) rfl ?_); refine zL (some 29) Try.func83 #[.agg #[.bool a0_0, .bool (!true), .bool a0_2, .bool a0_3, .bool a0_4, .int .i64 a0_5]] ?_; (with_reducible refine (impl_safe.calls a0_0 (!true) a0_2 a0_3 a0_4 a0_5 t139 t140 t141 t142 t143 t144 _ A20.out).mono ?_); rintro e w25 ⟨rfl, hb⟩; refine ⟨_, rfl, ?_⟩; replace BK131 := jA (blk_below (g := gb131) (o := .cells #[.bool a0_0, .bool (!true), .bool a0_2, .bool a0_3, .bool a0_4, .int .i64 a0_5] 23 (0, 0)) (zP0 BK131) hb); replace BK132 := jA (blk_below (g := gb132) (o := .cells #[.bool false, .bool false, .bool false, .bool false, .bool false, .int .i64 0] 23 (0, 0)) (zQ1 BK132 NB132_131) hb); replace HB := zS2 HB GE131 GE132 hb; clear hb; have hcz26 := zc6 BK131; have hcz27 := zc6 BK132))
    refine jT (results_ct rfl _ _ gb132 23 #[.bool t139, .bool t140, .bool t141, .bool t142, .bool t143, .int .i64 t144] (0, 0) _ rfl (zP1 BK132 NB132_131) Try.underlying23 rfl zr) rfl ?_
    exact ⟨ze, zb2 HB GE131 GE132⟩
   ·replace c19 := Bool.eq_false_iff.mpr c19
    subst c19
    rw [if_neg zfalse] at H
    simp only [jI, jM] at H
    obtain ⟨rfl, rfl, rfl, rfl, rfl, rfl, rfl⟩ := H
    go_enter Try.func67, Try.ntmps67
    go_wp2_with (first | ((with_reducible refine jK (N := 2) rfl ?_); refine zE 2 #[.bool a0_0, .bool false, .bool a0_2, .bool a0_3, .bool a0_4, .int .i64 a0_5] 23 ?_; intro gb131 hg w28 hbox hb; have BK131 := jA (hbox); have GW131 := zg0 hg HB; have GE131 := zg0 hg HB; replace HB := zS0 HB hb; clear hb hbox hg) | ((with_reducible refine jK (N := 4) rfl ?_); refine zE 4 #[.bool false, .bool false, .bool false, .bool false, .bool false, .int .i64 0] 23 ?_; intro gb132 hg w29 hbox hb; have BK132 := jA (hbox); have GW132 := zg1 hg HB GE131; have GE132 := zg1 hg HB GE131; replace HB := zS1 HB GE131 hb; have NB131_132 := zn hg BK131; replace BK131 := zB BK131 hb; have NB132_131 := jA NB131_132.out.symm; clear hb hbox hg; have hnb30 := NB131_132.out; have hnc30 := NB132_131.out; have hcz31 := zc6 BK131; have hcz32 := zc6 BK132))
    refine jT (results_ct rfl _ _ gb132 23 #[.bool a0_0, .bool (!false), .bool a0_2, .bool a0_3, .bool a0_4, .int .i64 a0_5] (0, 0) _ rfl (zP1 BK132 NB132_131) Try.underlying23 rfl zr) rfl ?_
    exact ⟨ze, zb2 HB GE131 GE132⟩
  ·rw [if_neg c18] at H
   have c18b0 : (a1 == 1) = false := beq_eq_false_iff_ne.mpr c18
   have c18b1 : (a1 != 1) = true := bne_iff_ne.mpr c18
   by_cases c33 : a1 = 2
   ·rw [if_pos c33] at H
    have c33b0 : (a1 == 2) = true := beq_iff_eq.mpr c33
    have c33b1 : (a1 != 2) = false := bne_eq_false_iff_eq.mpr c33
    clear c33
    by_cases c34 : a0_0 = true
    ·subst c34
     rw [if_pos rfl] at H
     by_cases c35 : a0_1 = true
     ·subst c35
      rw [if_pos rfl] at H
      by_cases c36 : a0_4 = true
      ·subst c36
       rw [if_pos rfl] at H
       simp only [jI, jM] at H
       obtain ⟨rfl, rfl, rfl, rfl, rfl, rfl, rfl⟩ := H
       go_enter Try.func67, Try.ntmps67
       go_wp2_with (first | ((with_reducible refine jK (N := 2) rfl ?_); refine zE 2 #[.bool true, .bool true, .bool a0_2, .bool a0_3, .bool true, .int .i64 a0_5] 23 ?_; intro gb131 hg w37 hbox hb; have BK131 := jA (hbox); have GW131 := zg0 hg HB; have GE131 := zg0 hg HB; replace HB := zS0 HB hb; clear hb hbox hg) | ((with_reducible refine jK (N := 4) rfl ?_); refine zE 4 #[.bool false, .bool false, .bool false, .bool false, .bool false, .int .i64 0] 23 ?_; intro gb132 hg w38 hbox hb; have BK132 := jA (hbox); have GW132 := zg1 hg HB GE131; have GE132 := zg1 hg HB GE131; replace HB := zS1 HB GE131 hb; have NB131_132 := zn hg BK131; replace BK131 := zB BK131 hb; have NB132_131 := jA NB131_132.out.symm; clear hb hbox hg; have hnb39 := NB131_132.out; have hnc39 := NB132_131.out; have hcz40 := zc6 BK131; have hcz41 := zc6 BK132))
       refine jT (results_ct rfl _ _ gb132 23 #[.bool false, .bool false, .bool false, .bool false, .bool false, .int .i64 0] (0, 0) _ rfl (zP0 BK132) Try.underlying23 rfl zr) rfl ?_
       exact ⟨ze, zb2 HB GE131 GE132⟩
      ·replace c36 := Bool.eq_false_iff.mpr c36
       subst c36
       rw [if_neg zfalse] at H
       simp only [jI, jM] at H
       obtain ⟨rfl, rfl, rfl, rfl, rfl, rfl, rfl⟩ := H
       go_enter Try.func67, Try.ntmps67
       go_wp2_with (first | ((with_reducible refine jK (N := 2) rfl ?_); refine zE 2 #[.bool true, .bool true, .bool a0_2, .bool a0_3, .bool false, .int .i64 a0_5] 23 ?_; intro gb131 hg w42 hbox hb; have BK131 := jA (hbox); have GW131 := zg0 hg HB; have GE131 := zg0 hg HB; replace HB := zS0 HB hb; clear hb hbox hg) | ((with_reducible refine jK (N := 4) rfl ?_); refine zE 4 #[.bool false, .bool false, .bool false, .bool false, .bool false, .int .i64 0] 23 ?_; intro gb132 hg w43 hbox hb; have BK132 := jA (hbox); have GW132 := zg1 hg HB GE131; have GE132 := zg1 hg HB GE131; replace HB := zS1 HB GE131 hb; have NB131_132 := zn hg BK131; replace BK131 := zB BK131 hb; have NB132_131 := jA NB131_132.out.symm; clear hb hbox hg; have hnb44 := NB131_132.out; have hnc44 := NB132_131.out; have hcz45 := zc6 BK131; have hcz46 := zc6 BK132))
       refine jT (results_ct rfl _ _ gb132 23 #[.bool true, .bool true, .bool true, .bool false, .bool false, .int .i64 0] (0, 0) _ rfl (zP1 BK132 NB132_131) Try.underlying23 rfl zr) rfl ?_
       exact ⟨ze, zb2 HB GE131 GE132⟩
     ·replace c35 := Bool.eq_false_iff.mpr c35
      subst c35
      rw [if_neg zfalse] at H
      simp only [jI, jM] at H
      obtain ⟨rfl, rfl, rfl, rfl, rfl, rfl, rfl⟩ := H
      go_enter Try.func67, Try.ntmps67
      go_wp2_with (first | ((with_reducible refine jK (N := 2) rfl ?_); refine zE 2 #[.bool true, .bool false, .bool a0_2, .bool a0_3, .bool a0_4, .int .i64 a0_5] 23 ?_; intro gb131 hg w47 hbox hb; have BK131 := jA (hbox); have GW131 := zg0 hg HB; have GE131 := zg0 hg HB; replace HB := zS0 HB hb; clear hb hbox hg) | ((with_reducible refine jK (N := 4) rfl ?_); refine zE 4 #[.bool false, .bool false, .bool false, .bool false, .bool false, .int .i64 0] 23 ?_; intro gb132 hg w48 hbox hb; have BK132 := jA (hbox); have GW132 := zg1 hg HB GE131; have GE132 := zg1 hg HB GE131; replace HB := zS1 HB GE131 hb; have NB131_132 := zn hg BK131; replace BK131 := zB BK131 hb; have NB132_131 := jA NB131_132.out.symm; clear hb hbox hg; have hnb49 := NB131_132.out; have hnc49 := NB132_131.out; have hcz50 := zc6 BK131; have hcz51 := zc6 BK132))
      refine jT (results_ct rfl _ _ gb132 23 #[.bool false, .bool false, .bool false, .bool false, .bool false, .int .i64 0] (0, 0) _ rfl (zP0 BK132) Try.underlying23 rfl zr) rfl ?_
      exact ⟨ze, zb2 HB GE131 GE132⟩
    ·replace c34 := Bool.eq_false_iff.mpr c34
     subst c34
     rw [if_neg zfalse] at H
     simp only [jI, jM] at H
     obtain ⟨rfl, rfl, rfl, rfl, rfl, rfl, rfl⟩ := H
     go_enter Try.func67, Try.ntmps67
     go_wp2_with (first | ((with_reducible refine jK (N := 2) rfl ?_); refine zE 2 #[.bool false, .bool a0_1, .bool a0_2, .bool a0_3, .bool a0_4, .int .i64 a0_5] 23 ?_; intro gb131 hg w52 hbox hb; have BK131 := jA (hbox); have GW131 := zg0 hg HB; have GE131 := zg0 hg HB; replace HB := zS0 HB hb; clear hb hbox hg) | ((with_reducible refine jK (N := 4) rfl ?_); refine zE 4 #[.bool false, .bool false, .bool false, .bool false, .bool false, .int .i64 0] 23 ?_; intro gb132 hg w53 hbox hb; have BK132 := jA (hbox); have GW132 := zg1 hg HB GE131; have GE132 := zg1 hg HB GE131; replace HB := zS1 HB GE131 hb; have NB131_132 := zn hg BK131; replace BK131 := zB BK131 hb; have NB132_131 := jA NB131_132.out.symm; clear hb hbox hg; have hnb54 := NB131_132.out; have hnc54 := NB132_131.out; have hcz55 := zc6 BK131; have hcz56 := zc6 BK132))
     refine jT (results_ct rfl _ _ gb132 23 #[.bool false, .bool false, .bool false, .bool false, .bool false, .int .i64 0] (0, 0) _ rfl (zP0 BK132) Try.underlying23 rfl zr) rfl ?_
     exact ⟨ze, zb2 HB GE131 GE132⟩
   ·rw [if_neg c33] at H
    have c33b0 : (a1 == 2) = false := beq_eq_false_iff_ne.mpr c33
    have c33b1 : (a1 != 2) = true := bne_iff_ne.mpr c33
    by_cases c57 : a1 = 3
    ·rw [if_pos c57] at H
     have c57b0 : (a1 == 3) = true := beq_iff_eq.mpr c57
     have c57b1 : (a1 != 3) = false := bne_eq_false_iff_eq.mpr c57
     clear c57
     replace H := jD.mp H
     obtain ⟨⟨t145, t146, t147, t148, t149, t150⟩, A580, H⟩ := H
     try dsimp only at H
     have A58 := jA A580
     clear A580
     simp only [jI, jM] at H
     obtain ⟨rfl, rfl, rfl, rfl, rfl, rfl, rfl⟩ := H
     go_enter Try.func67, Try.ntmps67
     go_wp2_with (first | ((with_reducible refine jK (N := 2) rfl ?_); refine zE 2 #[.bool a0_0, .bool a0_1, .bool a0_2, .bool a0_3, .bool a0_4, .int .i64 a0_5] 23 ?_; intro gb131 hg w59 hbox hb; have BK131 := jA (hbox); have GW131 := zg0 hg HB; have GE131 := zg0 hg HB; replace HB := zS0 HB hb; clear hb hbox hg) | ((with_reducible refine jK (N := 4) rfl ?_); refine zE 4 #[.bool false, .bool false, .bool false, .bool false, .bool false, .int .i64 0] 23 ?_; intro gb132 hg w60 hbox hb; have BK132 := jA (hbox); have GW132 := zg1 hg HB GE131; have GE132 := zg1 hg HB GE131; replace HB := zS1 HB GE131 hb; have NB131_132 := zn hg BK131; replace BK131 := zB BK131 hb; have NB132_131 := jA NB131_132.out.symm; clear hb hbox hg; have hnb61 := NB131_132.out; have hnc61 := NB132_131.out; have hcz62 := zc6 BK131) | ((with_reducible refine jH (f := 83) rfl ?_); refine zL (some 51) Try.func83 #[.agg #[.bool a0_0, .bool a0_1, .bool a0_2, .bool a0_3, .bool a0_4, .int .i64 a0_5]] ?_; (with_reducible refine (impl_safe.calls a0_0 a0_1 a0_2 a0_3 a0_4 a0_5 t145 t146 t147 t148 t149 t150 _ A58.out).mono ?_); rintro e w63 ⟨rfl, hb⟩; refine ⟨_, rfl, ?_⟩; replace BK131 := zB BK131 hb; replace BK132 := zB BK132 hb; replace HB := zS2 HB GE131 GE132 hb; clear hb; have hcz64 := zc6 BK131; have hcz65 := zc6 BK132))
     refine jT (results_ct rfl _ _ gb132 23 #[.bool t145, .bool t146, .bool t147, .bool t148, .bool t149, .int .i64 t150] (0, 0) _ rfl (zP1 BK132 NB132_131) Try.underlying23 rfl zr) rfl ?_
     exact ⟨ze, zb2 HB GE131 GE132⟩
    ·rw [if_neg c57] at H
     have c57b0 : (a1 == 3) = false := beq_eq_false_iff_ne.mpr c57
     have c57b1 : (a1 != 3) = true := bne_iff_ne.mpr c57
     by_cases c66 : a1 = 4
     ·rw [if_pos c66] at H
      have c66b0 : (a1 == 4) = true := beq_iff_eq.mpr c66
      have c66b1 : (a1 != 4) = false := bne_eq_false_iff_eq.mpr c66
      clear c66
      by_cases c67 : a0_2 = true
      ·subst c67
       rw [if_pos rfl] at H
       by_cases c68 : a0_3 = true
       ·subst c68
        rw [if_pos rfl] at H
        simp only [jI, jM] at H
        obtain ⟨rfl, rfl, rfl, rfl, rfl, rfl, rfl⟩ := H
        go_enter Try.func67, Try.ntmps67
        go_wp2_with (first | ((with_reducible refine jK (N := 2) rfl ?_); refine zE 2 #[.bool a0_0, .bool a0_1, .bool true, .bool true, .bool a0_4, .int .i64 a0_5] 23 ?_; intro gb131 hg w69 hbox hb; have BK131 := jA (hbox); have GW131 := zg0 hg HB; have GE131 := zg0 hg HB; replace HB := zS0 HB hb; clear hb hbox hg) | ((with_reducible refine jK (N := 4) rfl ?_); refine zE 4 #[.bool false, .bool false, .bool false, .bool false, .bool false, .int .i64 0] 23 ?_; intro gb132 hg w70 hbox hb; have BK132 := jA (hbox); have GW132 := zg1 hg HB GE131; have GE132 := zg1 hg HB GE131; replace HB := zS1 HB GE131 hb; have NB131_132 := zn hg BK131; replace BK131 := zB BK131 hb; have NB132_131 := jA NB131_132.out.symm; clear hb hbox hg; have hnb71 := NB131_132.out; have hnc71 := NB132_131.out; have hcz72 := zc6 BK131; have hcz73 := zc6 BK132))
        refine jT (results_ct rfl _ _ gb132 23 #[.bool false, .bool false, .bool false, .bool false, .bool false, .int .i64 0] (0, 0) _ rfl (zP0 BK132) Try.underlying23 rfl zr) rfl ?_
        exact ⟨ze, zb2 HB GE131 GE132⟩
       ·replace c68 := Bool.eq_false_iff.mpr c68
        subst c68
        rw [if_neg zfalse] at H
        simp only [jI, jM] at H
        obtain ⟨rfl, rfl, rfl, rfl, rfl, rfl, rfl⟩ := H
        go_enter Try.func67, Try.ntmps67
        go_wp2_with (first | ((with_reducible refine jK (N := 2) rfl ?_); refine zE 2 #[.bool a0_0, .bool a0_1, .bool true, .bool false, .bool a0_4, .int .i64 a0_5] 23 ?_; intro gb131 hg w74 hbox hb; have BK131 := jA (hbox); have GW131 := zg0 hg HB; have GE131 := zg0 hg HB; replace HB := zS0 HB hb; clear hb hbox hg) | ((with_reducible refine jK (N := 4) rfl ?_); refine zE 4 #[.bool false, .bool false, .bool false, .bool false, .bool false, .int .i64 0] 23 ?_; intro gb132 hg w75 hbox hb; have BK132 := jA (hbox); have GW132 := zg1 hg HB GE131; have GE132 := zg1 hg HB GE131; replace HB := zS1 HB GE131 hb; have NB131_132 := zn hg BK131; replace BK131 := zB BK131 hb; have NB132_131 := jA NB131_132.out.symm; clear hb hbox hg; have hnb76 := NB131_132.out; have hnc76 := NB132_131.out; have hcz77 := zc6 BK131; have hcz78 := zc6 BK132))
        refine jT (results_ct rfl _ _ gb132 23 #[.bool a0_0, .bool a0_1, .bool true, .bool true, .bool a0_4, .int .i64 a0_5] (0, 0) _ rfl (zP1 BK132 NB132_131) Try.underlying23 rfl zr) rfl ?_
        exact ⟨ze, zb2 HB GE131 GE132⟩
      ·replace c67 := Bool.eq_false_iff.mpr c67
       subst c67
       rw [if_neg zfalse] at H
       simp only [jI, jM] at H
       obtain ⟨rfl, rfl, rfl, rfl, rfl, rfl, rfl⟩ := H
       go_enter Try.func67, Try.ntmps67
       go_wp2_with (first | ((with_reducible refine jK (N := 2) rfl ?_); refine zE 2 #[.bool a0_0, .bool a0_1, .bool false, .bool a0_3, .bool a0_4, .int .i64 a0_5] 23 ?_; intro gb131 hg w79 hbox hb; have BK131 := jA (hbox); have GW131 := zg0 hg HB; have GE131 := zg0 hg HB; replace HB := zS0 HB hb; clear hb hbox hg) | ((with_reducible refine jK (N := 4) rfl ?_); refine zE 4 #[.bool false, .bool false, .bool false, .bool false, .bool false, .int .i64 0] 23 ?_; intro gb132 hg w80 hbox hb; have BK132 := jA (hbox); have GW132 := zg1 hg HB GE131; have GE132 := zg1 hg HB GE131; replace HB := zS1 HB GE131 hb; have NB131_132 := zn hg BK131; replace BK131 := zB BK131 hb; have NB132_131 := jA NB131_132.out.symm; clear hb hbox hg; have hnb81 := NB131_132.out; have hnc81 := NB132_131.out; have hcz82 := zc6 BK131; have hcz83 := zc6 BK132))
       refine jT (results_ct rfl _ _ gb132 23 #[.bool false, .bool false, .bool false, .bool false, .bool false, .int .i64 0] (0, 0) _ rfl (zP0 BK132) Try.underlying23 rfl zr) rfl ?_
       exact ⟨ze, zb2 HB GE131 GE132⟩
     ·rw [if_neg c66] at H
      have c66b0 : (a1 == 4) = false := beq_eq_false_iff_ne.mpr c66
      have c66b1 : (a1 != 4) = true := bne_iff_ne.mpr c66
      by_cases c84 : a1 = 5
      ·rw [if_pos c84] at H
       have c84b0 : (a1 == 5) = true := beq_iff_eq.mpr c84
       have c84b1 : (a1 != 5) = false := bne_eq_false_iff_eq.mpr c84
       clear c84
       by_cases c85 : a0_3 = true
       ·subst c85
        rw [if_pos rfl] at H
        simp only [jI, jM] at H
        obtain ⟨rfl, rfl, rfl, rfl, rfl, rfl, rfl⟩ := H
        go_enter Try.func67, Try.ntmps67
        go_wp2_with (first | ((with_reducible refine jK (N := 2) rfl ?_); refine zE 2 #[.bool a0_0, .bool a0_1, .bool a0_2, .bool true, .bool a0_4, .int .i64 a0_5] 23 ?_; intro gb131 hg w86 hbox hb; have BK131 := jA (hbox); have GW131 := zg0 hg HB; have GE131 := zg0 hg HB; replace HB := zS0 HB hb; clear hb hbox hg) | ((with_reducible refine jK (N := 4) rfl ?_); refine zE 4 #[.bool false, .bool false, .bool false, .bool false, .bool false, .int .i64 0] 23 ?_; intro gb132 hg w87 hbox hb; have BK132 := jA (hbox); have GW132 := zg1 hg HB GE131; have GE132 := zg1 hg HB GE131; replace HB := zS1 HB GE131 hb; have NB131_132 := zn hg BK131; replace BK131 := zB BK131 hb; have NB132_131 := jA NB131_132.out.symm; clear hb hbox hg; have hnb88 := NB131_132.out; have hnc88 := NB132_131.out; have hcz89 := zc6 BK131; have hcz90 := zc6 BK132))
        refine jT (results_ct rfl _ _ gb132 23 #[.bool a0_0, .bool a0_1, .bool a0_2, .bool false, .bool a0_4, .int .i64 a0_5] (0, 0) _ rfl (zP1 BK132 NB132_131) Try.underlying23 rfl zr) rfl ?_
        exact ⟨ze, zb2 HB GE131 GE132⟩
       ·replace c85 := Bool.eq_false_iff.mpr c85
        subst c85
        rw [if_neg zfalse] at H
        simp only [jI, jM] at H
        obtain ⟨rfl, rfl, rfl, rfl, rfl, rfl, rfl⟩ := H
        go_enter Try.func67, Try.ntmps67
        go_wp2_with (first | ((with_reducible refine jK (N := 2) rfl ?_); refine zE 2 #[.bool a0_0, .bool a0_1, .bool a0_2, .bool false, .bool a0_4, .int .i64 a0_5] 23 ?_; intro gb131 hg w91 hbox hb; have BK131 := jA (hbox); have GW131 := zg0 hg HB; have GE131 := zg0 hg HB; replace HB := zS0 HB hb; clear hb hbox hg) | ((with_reducible refine jK (N := 4) rfl ?_); refine zE 4 #[.bool false, .bool false, .bool false, .bool false, .bool false, .int .i64 0] 23 ?_; intro gb132 hg w92 hbox hb; have BK132 := jA (hbox); have GW132 := zg1 hg HB GE131; have GE132 := zg1 hg HB GE131; replace HB := zS1 HB GE131 hb; have NB131_132 := zn hg BK131; replace BK131 := zB BK131 hb; have NB132_131 := jA NB131_132.out.symm; clear hb hbox hg; have hnb93 := NB131_132.out; have hnc93 := NB132_131.out; have hcz94 := zc6 BK131; have hcz95 := zc6 BK132))
        refine jT (results_ct rfl _ _ gb132 23 #[.bool false, .bool false, .bool false, .bool false, .bool false, .int .i64 0] (0, 0) _ rfl (zP0 BK132) Try.underlying23 rfl zr) rfl ?_
        exact ⟨ze, zb2 HB GE131 GE132⟩
      ·rw [if_neg c84] at H
       have c84b0 : (a1 == 5) = false := beq_eq_false_iff_ne.mpr c84
       have c84b1 : (a1 != 5) = true := bne_iff_ne.mpr c84
       by_cases c96 : a1 = 6
       ·rw [if_pos c96] at H
        have c96b0 : (a1 == 6) = true := beq_iff_eq.mpr c96
        have c96b1 : (a1 != 6) = false := bne_eq_false_iff_eq.mpr c96
        clear c96
        replace H := jD.mp H
        obtain ⟨⟨t151, t152, t153, t154, t155, t156⟩, A970, H⟩ := H
        try dsimp only at H
        have A97 := jA A970
        clear A970
        simp only [jI, jM] at H
        obtain ⟨rfl, rfl, rfl, rfl, rfl, rfl, rfl⟩ := H
        go_enter Try.func67, Try.ntmps67
        go_upto_region 27 with (first | ((with_reducible refine jK (N := 2) rfl ?_); refine zE 2 #[.bool a0_0, .bool a0_1, .bool a0_2, .bool a0_3, .bool a0_4, .int .i64 a0_5] 23 ?_; intro gb131 hg w98 hbox hb; have BK131 := jA (hbox); have GW131 := zg0 hg HB; have GE131 := zg0 hg HB; replace HB := zS0 HB hb; clear hb hbox hg) | ((with_reducible refine jK (N := 4) rfl ?_); refine zE 4 #[.bool false, .bool false, .bool false, .bool false, .bool false, .int .i64 0] 23 ?_; intro gb132 hg w99 hbox hb; have BK132 := jA (hbox); have GW132 := zg1 hg HB GE131; have GE132 := zg1 hg HB GE131; replace HB := zS1 HB GE131 hb; have NB131_132 := zn hg BK131; replace BK131 := zB BK131 hb; have NB132_131 := jA NB131_132.out.symm; clear hb hbox hg; have hnb100 := NB131_132.out; have hnc100 := NB132_131.out; have hcz101 := zc6 BK131) | ((with_reducible refine jH (f := 83) rfl ?_); refine zL (some 73) Try.func83 #[.agg #[.bool a0_0, .bool a0_1, .bool a0_2, .bool a0_3, .bool a0_4, .int .i64 a0_5]] ?_; (with_reducible refine (impl_safe.calls a0_0 a0_1 a0_2 a0_3 a0_4 a0_5 t151 t152 t153 t154 t155 t156 _ A97.out).mono ?_); rintro e w102 ⟨rfl, hb⟩; refine ⟨_, rfl, ?_⟩; replace BK131 := zB BK131 hb; replace BK132 := zB BK132 hb; replace HB := zS2 HB GE131 GE132 hb; clear hb; obtain ⟨hcz103_0, hcz103_1, hcz103_2, hcz103_3, hcz103_4, hcz103_5, hfz103_0, hfz103_1, hfz103_2, hfz103_3, hfz103_4, hfz103_5⟩ := zc6 BK131; obtain ⟨hcz104_0, hcz104_1, hcz104_2, hcz104_3, hcz104_4, hcz104_5, hfz104_0, hfz104_1, hfz104_2, hfz104_3, hfz104_4, hfz104_5⟩ := zc6 BK132))
        generalize hq_ : World.setCell _ ⟨gb131, 5, none⟩ (.int .i64 t156) = wq
        replace BK131 : Aside0 (wq.heap[gb131]? = some (.cells #[.bool t151, .bool t152, .bool t153, .bool t154, .bool t155, .int .i64 t156] 23 (0, 0))) := ⟨by rw [← hq_]; exact (blk_set (blk_set (blk_set (blk_set (blk_set (blk_set BK131.out 0 _) 1 _) 2 _) 3 _) 4 _) 5 _)⟩
        replace BK132 : Aside0 (wq.heap[gb132]? = some (.cells #[.bool false, .bool false, .bool false, .bool false, .bool false, .int .i64 0] 23 (0, 0))) := ⟨by rw [← hq_]; exact (blk_far (blk_far (blk_far (blk_far (blk_far (blk_far BK132.out NB132_131.out _) NB132_131.out _) NB132_131.out _) NB132_131.out _) NB132_131.out _) NB132_131.out _)⟩
        replace HB : Aside0 (Below w.heap.size w wq) := ⟨by rw [← hq_]; (repeat (first | (with_reducible first | exact HB.out | apply below_alloc | apply pw_below_drewN | apply below_drew1 | refine below_set ?_ GE131.out | refine below_set ?_ GE132.out) | exact HB.out))⟩
        clear hq_ hcz103_0 hcz103_1 hcz103_2 hcz103_3 hcz103_4 hcz103_5 hcz104_0 hcz104_1 hcz104_2 hcz104_3 hcz104_4 hcz104_5 hfz103_0 hfz103_1 hfz103_2 hfz103_3 hfz103_4 hfz103_5 hfz104_0 hfz104_1 hfz104_2 hfz104_3 hfz104_4 hfz104_5
        have hcqgb131_0 : wq.cell? ⟨gb131, 0, none⟩ = some (.bool t151) := (jL BK131.out 0).trans rfl
        have hcqgb131_1 : wq.cell? ⟨gb131, 1, none⟩ = some (.bool t152) := (jL BK131.out 1).trans rfl
        have hcqgb131_2 : wq.cell? ⟨gb131, 2, none⟩ = some (.bool t153) := (jL BK131.out 2).trans rfl
        have hcqgb131_3 : wq.cell? ⟨gb131, 3, none⟩ = some (.bool t154) := (jL BK131.out 3).trans rfl
        have hcqgb131_4 : wq.cell? ⟨gb131, 4, none⟩ = some (.bool t155) := (jL BK131.out 4).trans rfl
        have hcqgb131_5 : wq.cell? ⟨gb131, 5, none⟩ = some (.int .i64 t156) := (jL BK131.out 5).trans rfl
        have hfqgb131 := jY BK131.out
        have hcqgb132_0 : wq.cell? ⟨gb132, 0, none⟩ = some (.bool false) := (jL BK132.out 0).trans rfl
        have hcqgb132_1 : wq.cell? ⟨gb132, 1, none⟩ = some (.bool false) := (jL BK132.out 1).trans rfl
        have hcqgb132_2 : wq.cell? ⟨gb132, 2, none⟩ = some (.bool false) := (jL BK132.out 2).trans rfl
        have hcqgb132_3 : wq.cell? ⟨gb132, 3, none⟩ = some (.bool false) := (jL BK132.out 3).trans rfl
        have hcqgb132_4 : wq.cell? ⟨gb132, 4, none⟩ = some (.bool false) := (jL BK132.out 4).trans rfl
        have hcqgb132_5 : wq.cell? ⟨gb132, 5, none⟩ = some (.int .i64 0) := (jL BK132.out 5).trans rfl
        have hfqgb132 := jY BK132.out
        go_wp2_with (fail)
        refine jT (results_ct rfl _ _ gb132 23 #[.bool t151, .bool t152, .bool t153, .bool t154, .bool true, .int .i64 t156] (0, 0) _ rfl (zP1 BK132 NB132_131) Try.underlying23 rfl zr) rfl ?_
        exact ⟨ze, zb2 HB GE131 GE132⟩
       ·rw [if_neg c96] at H
        have c96b0 : (a1 == 6) = false := beq_eq_false_iff_ne.mpr c96
        have c96b1 : (a1 != 6) = true := bne_iff_ne.mpr c96
        by_cases c105 : a1 = 7
        ·rw [if_pos c105] at H
         have c105b0 : (a1 == 7) = true := beq_iff_eq.mpr c105
         have c105b1 : (a1 != 7) = false := bne_eq_false_iff_eq.mpr c105
         clear c105
         simp only [jI, jM] at H
         obtain ⟨rfl, rfl, rfl, rfl, rfl, rfl, rfl⟩ := H
         go_enter Try.func67, Try.ntmps67
         go_wp2_with (first | ((with_reducible refine jK (N := 2) rfl ?_); refine zE 2 #[.bool a0_0, .bool a0_1, .bool a0_2, .bool a0_3, .bool a0_4, .int .i64 a0_5] 23 ?_; intro gb131 hg w106 hbox hb; have BK131 := jA (hbox); have GW131 := zg0 hg HB; have GE131 := zg0 hg HB; replace HB := zS0 HB hb; clear hb hbox hg) | ((with_reducible refine jK (N := 4) rfl ?_); refine zE 4 #[.bool false, .bool false, .bool false, .bool false, .bool false, .int .i64 0] 23 ?_; intro gb132 hg w107 hbox hb; have BK132 := jA (hbox); have GW132 := zg1 hg HB GE131; have GE132 := zg1 hg HB GE131; replace HB := zS1 HB GE131 hb; have NB131_132 := zn hg BK131; replace BK131 := zB BK131 hb; have NB132_131 := jA NB131_132.out.symm; clear hb hbox hg; have hnb108 := NB131_132.out; have hnc108 := NB132_131.out; have hcz109 := zc6 BK131; have hcz110 := zc6 BK132))
         refine jT (results_ct rfl _ _ gb132 23 #[.bool a0_0, .bool a0_1, .bool a0_2, .bool a0_3, .bool a0_4, .int .i64 0] (0, 0) _ rfl (zP1 BK132 NB132_131) Try.underlying23 rfl zr) rfl ?_
         exact ⟨ze, zb2 HB GE131 GE132⟩
        ·rw [if_neg c105] at H
         have c105b0 : (a1 == 7) = false := beq_eq_false_iff_ne.mpr c105
         have c105b1 : (a1 != 7) = true := bne_iff_ne.mpr c105
         by_cases c111 : a1 = 8
         ·rw [if_pos c111] at H
          have c111b0 : (a1 == 8) = true := beq_iff_eq.mpr c111
          have c111b1 : (a1 != 8) = false := bne_eq_false_iff_eq.mpr c111
          clear c111
          obtain ⟨ji112, hji112⟩ : ∃ j_ : Int, (mn (wrap64 (a0_5 + 1)) 4) = j_ := ⟨_, rfl⟩
          replace H : (if (ji112) > 3 then ((impl_safe.f a0_0 a0_1 a0_2 a0_3 a0_4 (ji112)).bind fun bt157 => (some (bt157.1, bt157.2.1, bt157.2.2.1, bt157.2.2.2.1, bt157.2.2.2.2.1, bt157.2.2.2.2.2, 0))) else (some (a0_0, a0_1, a0_2, a0_3, a0_4, ji112, 0))) = some (r1, r2, r3, r4, r5, r6, r7) := by first | (rw [hji112] at H; exact H) | (simp only [hji112] at H ⊢; exact H)
          (try (have hji112h : ji112 ≤ 4 := by (rw [← hji112]; unfold mn; (repeat' split) <;> omega)))
          (try (have hji112g : ji112 ≤ 64 := by omega))
          have hji112_ : (if 4 < (wrap64 (a0_5 + 1)) then 4 else (wrap64 (a0_5 + 1))) = ji112 := hji112
          by_cases c113 : (ji112) > 3
          ·rw [if_pos c113] at H
           have c113b0 : decide (3 < (ji112)) = true := jJ c113
           clear c113
           replace H := jD.mp H
           obtain ⟨⟨t157, t158, t159, t160, t161, t162⟩, A1140, H⟩ := H
           try dsimp only at H
           have A114 := jA A1140
           clear A1140
           simp only [jI, jM] at H
           obtain ⟨rfl, rfl, rfl, rfl, rfl, rfl, rfl⟩ := H
           go_enter Try.func67, Try.ntmps67
           go_wp2_with (first | ((with_reducible refine jK (N := 2) rfl ?_); refine zE 2 #[.bool a0_0, .bool a0_1, .bool a0_2, .bool a0_3, .bool a0_4, .int .i64 a0_5] 23 ?_; intro gb131 hg w115 hbox hb; have BK131 := jA (hbox); have GW131 := zg0 hg HB; have GE131 := zg0 hg HB; replace HB := zS0 HB hb; clear hb hbox hg) | ((with_reducible refine jK (N := 4) rfl ?_); refine zE 4 #[.bool false, .bool false, .bool false, .bool false, .bool false, .int .i64 0] 23 ?_; intro gb132 hg w116 hbox hb; have BK132 := jA (hbox); have GW132 := zg1 hg HB GE131; have GE132 := zg1 hg HB GE131; replace HB := zS1 HB GE131 hb; have NB131_132 := zn hg BK131; replace BK131 := zB BK131 hb; have NB132_131 := jA NB131_132.out.symm; clear hb hbox hg; have hnb117 := NB131_132.out; have hnc117 := NB132_131.out; have hcz118 := zc6 BK131) | ((with_reducible refine jH (f := 83) rfl ?_); refine goesL_ (some 89) rfl rfl Try.func83 zr rfl #[.agg #[.bool a0_0, .bool a0_1, .bool a0_2, .bool a0_3, .bool a0_4, .int .i64 ji112]] rfl (by (try simp only [List.map_toArray, List.map_cons, List.map_nil]); first | done | (simp only [hji112]; rfl) | rfl | (simp only [List.length_drop, List.length_take]; rfl)) ?_; (with_reducible refine (impl_safe.calls a0_0 a0_1 a0_2 a0_3 a0_4 ji112 t157 t158 t159 t160 t161 t162 _ A114.out).mono ?_); rintro e w119 ⟨rfl, hb⟩; refine ⟨_, rfl, ?_⟩; replace BK131 := jA (blk_below (g := gb131) (o := .cells #[.bool a0_0, .bool a0_1, .bool a0_2, .bool a0_3, .bool a0_4, .int .i64 ji112] 23 (0, 0)) (zP0 BK131) hb); replace BK132 := jA (blk_below (g := gb132) (o := .cells #[.bool false, .bool false, .bool false, .bool false, .bool false, .int .i64 0] 23 (0, 0)) (zQ1 BK132 NB132_131) hb); replace HB := zS2 HB GE131 GE132 hb; clear hb; have hcz120 := zc6 BK131; have hcz121 := zc6 BK132))
           refine jT (results_ct rfl _ _ gb132 23 #[.bool t157, .bool t158, .bool t159, .bool t160, .bool t161, .int .i64 t162] (0, 0) _ rfl (zP1 BK132 NB132_131) Try.underlying23 rfl zr) rfl ?_
           exact ⟨by first | rfl | (simp [errW_none, errW_some] <;> rfl) | (simp only [← hji112]; first | rfl | (simp [errW_none, errW_some] <;> rfl)) | (simp [*, errW_none, errW_some] <;> rfl), zb2 HB GE131 GE132⟩
          ·rw [if_neg c113] at H
           have c113b0 : decide (3 < (ji112)) = false := jW c113
           clear c113
           simp only [jI, jM] at H
           obtain ⟨rfl, rfl, rfl, rfl, rfl, rfl, rfl⟩ := H
           go_enter Try.func67, Try.ntmps67
           go_wp2_with (first | ((with_reducible refine jK (N := 2) rfl ?_); refine zE 2 #[.bool a0_0, .bool a0_1, .bool a0_2, .bool a0_3, .bool a0_4, .int .i64 a0_5] 23 ?_; intro gb131 hg w122 hbox hb; have BK131 := jA (hbox); have GW131 := zg0 hg HB; have GE131 := zg0 hg HB; replace HB := zS0 HB hb; clear hb hbox hg) | ((with_reducible refine jK (N := 4) rfl ?_); refine zE 4 #[.bool false, .bool false, .bool false, .bool false, .bool false, .int .i64 0] 23 ?_; intro gb132 hg w123 hbox hb; have BK132 := jA (hbox); have GW132 := zg1 hg HB GE131; have GE132 := zg1 hg HB GE131; replace HB := zS1 HB GE131 hb; have NB131_132 := zn hg BK131; replace BK131 := zB BK131 hb; have NB132_131 := jA NB131_132.out.symm; clear hb hbox hg; have hnb124 := NB131_132.out; have hnc124 := NB132_131.out; have hcz125 := zc6 BK131; have hcz126 := zc6 BK132))
           refine jT (results_ct rfl _ _ gb132 23 #[.bool a0_0, .bool a0_1, .bool a0_2, .bool a0_3, .bool a0_4, .int .i64 ji112] (0, 0) _ rfl (zP1 BK132 NB132_131) Try.underlying23 rfl zr) rfl ?_
           exact ⟨by first | rfl | (simp [errW_none, errW_some] <;> rfl) | (simp only [← hji112]; first | rfl | (simp [errW_none, errW_some] <;> rfl)) | (simp [*, errW_none, errW_some] <;> rfl), zb2 HB GE131 GE132⟩
         ·rw [if_neg c111] at H
          have c111b0 : (a1 == 8) = false := beq_eq_false_iff_ne.mpr c111
          have c111b1 : (a1 != 8) = true := bne_iff_ne.mpr c111
          by_cases c127 : a1 = 9
          ·rw [if_pos c127] at H
           have c127b0 : (a1 == 9) = true := beq_iff_eq.mpr c127
           have c127b1 : (a1 != 9) = false := bne_eq_false_iff_eq.mpr c127
           clear c127
           by_cases c128 : a0_4 = true
           ·subst c128
            rw [if_pos rfl] at H
            by_cases c129 : a0_0 = true
            ·subst c129
             rw [if_pos rfl] at H
             simp only [jI, jM] at H
             obtain ⟨rfl, rfl, rfl, rfl, rfl, rfl, rfl⟩ := H
             go_enter Try.func67, Try.ntmps67
             go_wp2_with (first | ((with_reducible refine jK (N := 2) rfl ?_); refine zE 2 #[.bool true, .bool a0_1, .bool a0_2, .bool a0_3, .bool true, .int .i64 a0_5] 23 ?_; intro gb131 hg w130 hbox hb; have BK131 := jA (hbox); have GW131 := zg0 hg HB; have GE131 := zg0 hg HB; replace HB := zS0 HB hb; clear hb hbox hg) | ((with_reducible refine jK (N := 4) rfl ?_); refine zE 4 #[.bool false, .bool false, .bool false, .bool false, .bool false, .int .i64 0] 23 ?_; intro gb132 hg w131 hbox hb; have BK132 := jA (hbox); have GW132 := zg1 hg HB GE131; have GE132 := zg1 hg HB GE131; replace HB := zS1 HB GE131 hb; have NB131_132 := zn hg BK131; replace BK131 := zB BK131 hb; have NB132_131 := jA NB131_132.out.symm; clear hb hbox hg; have hnb132 := NB131_132.out; have hnc132 := NB132_131.out; have hcz133 := zc6 BK131; have hcz134 := zc6 BK132))
             refine jT (results_ct rfl _ _ gb132 23 #[.bool false, .bool false, .bool false, .bool false, .bool false, .int .i64 0] (0, 0) _ rfl (zP0 BK132) Try.underlying23 rfl zr) rfl ?_
             exact ⟨ze, zb2 HB GE131 GE132⟩
            ·replace c129 := Bool.eq_false_iff.mpr c129
             subst c129
             rw [if_neg zfalse] at H
             by_cases c135 : a0_1 = true
             ·subst c135
              rw [if_pos rfl] at H
              simp only [jI, jM] at H
              obtain ⟨rfl, rfl, rfl, rfl, rfl, rfl, rfl⟩ := H
              go_enter Try.func67, Try.ntmps67
              go_wp2_with (first | ((with_reducible refine jK (N := 2) rfl ?_); refine zE 2 #[.bool false, .bool true, .bool a0_2, .bool a0_3, .bool true, .int .i64 a0_5] 23 ?_; intro gb131 hg w136 hbox hb; have BK131 := jA (hbox); have GW131 := zg0 hg HB; have GE131 := zg0 hg HB; replace HB := zS0 HB hb; clear hb hbox hg) | ((with_reducible refine jK (N := 4) rfl ?_); refine zE 4 #[.bool false, .bool false, .bool false, .bool false, .bool false, .int .i64 0] 23 ?_; intro gb132 hg w137 hbox hb; have BK132 := jA (hbox); have GW132 := zg1 hg HB GE131; have GE132 := zg1 hg HB GE131; replace HB := zS1 HB GE131 hb; have NB131_132 := zn hg BK131; replace BK131 := zB BK131 hb; have NB132_131 := jA NB131_132.out.symm; clear hb hbox hg; have hnb138 := NB131_132.out; have hnc138 := NB132_131.out; have hcz139 := zc6 BK131; have hcz140 := zc6 BK132))
              refine jT (results_ct rfl _ _ gb132 23 #[.bool false, .bool false, .bool false, .bool false, .bool false, .int .i64 0] (0, 0) _ rfl (zP0 BK132) Try.underlying23 rfl zr) rfl ?_
              exact ⟨ze, zb2 HB GE131 GE132⟩
             ·replace c135 := Bool.eq_false_iff.mpr c135
              subst c135
              rw [if_neg zfalse] at H
              simp only [jI, jM] at H
              obtain ⟨rfl, rfl, rfl, rfl, rfl, rfl, rfl⟩ := H
              go_enter Try.func67, Try.ntmps67
              go_wp2_with (first | ((with_reducible refine jK (N := 2) rfl ?_); refine zE 2 #[.bool false, .bool false, .bool a0_2, .bool a0_3, .bool true, .int .i64 a0_5] 23 ?_; intro gb131 hg w141 hbox hb; have BK131 := jA (hbox); have GW131 := zg0 hg HB; have GE131 := zg0 hg HB; replace HB := zS0 HB hb; clear hb hbox hg) | ((with_reducible refine jK (N := 4) rfl ?_); refine zE 4 #[.bool false, .bool false, .bool false, .bool false, .bool false, .int .i64 0] 23 ?_; intro gb132 hg w142 hbox hb; have BK132 := jA (hbox); have GW132 := zg1 hg HB GE131; have GE132 := zg1 hg HB GE131; replace HB := zS1 HB GE131 hb; have NB131_132 := zn hg BK131; replace BK131 := zB BK131 hb; have NB132_131 := jA NB131_132.out.symm; clear hb hbox hg; have hnb143 := NB131_132.out; have hnc143 := NB132_131.out; have hcz144 := zc6 BK131; have hcz145 := zc6 BK132))
              refine jT (results_ct rfl _ _ gb132 23 #[.bool false, .bool false, .bool a0_2, .bool a0_3, .bool false, .int .i64 a0_5] (0, 0) _ rfl (zP1 BK132 NB132_131) Try.underlying23 rfl zr) rfl ?_
              exact ⟨ze, zb2 HB GE131 GE132⟩
           ·replace c128 := Bool.eq_false_iff.mpr c128
            subst c128
            rw [if_neg zfalse] at H
            simp only [jI, jM] at H
            obtain ⟨rfl, rfl, rfl, rfl, rfl, rfl, rfl⟩ := H
            go_enter Try.func67, Try.ntmps67
            go_wp2_with (first | ((with_reducible refine jK (N := 2) rfl ?_); refine zE 2 #[.bool a0_0, .bool a0_1, .bool a0_2, .bool a0_3, .bool false, .int .i64 a0_5] 23 ?_; intro gb131 hg w146 hbox hb; have BK131 := jA (hbox); have GW131 := zg0 hg HB; have GE131 := zg0 hg HB; replace HB := zS0 HB hb; clear hb hbox hg) | ((with_reducible refine jK (N := 4) rfl ?_); refine zE 4 #[.bool false, .bool false, .bool false, .bool false, .bool false, .int .i64 0] 23 ?_; intro gb132 hg w147 hbox hb; have BK132 := jA (hbox); have GW132 := zg1 hg HB GE131; have GE132 := zg1 hg HB GE131; replace HB := zS1 HB GE131 hb; have NB131_132 := zn hg BK131; replace BK131 := zB BK131 hb; have NB132_131 := jA NB131_132.out.symm; clear hb hbox hg; have hnb148 := NB131_132.out; have hnc148 := NB132_131.out; have hcz149 := zc6 BK131; have hcz150 := zc6 BK132))
            refine jT (results_ct rfl _ _ gb132 23 #[.bool false, .bool false, .bool false, .bool false, .bool false, .int .i64 0] (0, 0) _ rfl (zP0 BK132) Try.underlying23 rfl zr) rfl ?_
            exact ⟨ze, zb2 HB GE131 GE132⟩
          ·rw [if_neg c127] at H
           have c127b0 : (a1 == 9) = false := beq_eq_false_iff_ne.mpr c127
           have c127b1 : (a1 != 9) = true := bne_iff_ne.mpr c127
           simp only [jI, jM] at H
           obtain ⟨rfl, rfl, rfl, rfl, rfl, rfl, rfl⟩ := H
           go_enter Try.func67, Try.ntmps67
           go_wp2_with (first | ((with_reducible refine jK (N := 2) rfl ?_); refine zE 2 #[.bool a0_0, .bool a0_1, .bool a0_2, .bool a0_3, .bool a0_4, .int .i64 a0_5] 23 ?_; intro gb131 hg w151 hbox hb; have BK131 := jA (hbox); have GW131 := zg0 hg HB; have GE131 := zg0 hg HB; replace HB := zS0 HB hb; clear hb hbox hg) | ((with_reducible refine jK (N := 4) rfl ?_); refine zE 4 #[.bool false, .bool false, .bool false, .bool false, .bool false, .int .i64 0] 23 ?_; intro gb132 hg w152 hbox hb; have BK132 := jA (hbox); have GW132 := zg1 hg HB GE131; have GE132 := zg1 hg HB GE131; replace HB := zS1 HB GE131 hb; have NB131_132 := zn hg BK131; replace BK131 := zB BK131 hb; have NB132_131 := jA NB131_132.out.symm; clear hb hbox hg; have hnb153 := NB132_131.out; have hnc153 := NB131_132.out; have hcz154 := zc6 BK132))
           refine jT (results_ct rfl _ _ gb132 23 #[.bool false, .bool false, .bool false, .bool false, .bool false, .int .i64 0] (0, 0) _ rfl (zP0 BK132) Try.underlying23 rfl zr) rfl ?_
           exact ⟨ze, zb2 HB GE131 GE132⟩

end Go.Proofs.Ythieppjmjgijfaa.PFnReached
