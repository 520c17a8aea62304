/- Functions and contracts that FnExactMovePieces reaches (21 of 24). -/
import Derived.Test.YtdgglhfnlljmeaaQFnExactMovePiecesx19
namespace Go.Proofs.Ytdgglhfnlljmeaa.PFnExactMovePieces
open Go.RowKit Go.Proofs.YtdgglhfnlljmeaaW.PrintWords Go.Proofs.YtdgglhfnlljmeaaW.PrintLast Go.Proofs.YtdgglhfnlljmeaaW.PrintMore
attribute [local go_sem] max2_int min2_int max_two min_two max_three min_three max_four min_four   -- for this text's walks alone
set_option linter.unusedVariables false
set_option linter.unusedSimpArgs false
open Go.Proofs.YtdgglhfnlljmeaaX

/-! ### laws_eqArticle: function 82 -/
def laws_eqArticle.f (a0_0 : ByteArray) (a0_1 : Int) (a0_2 : Int) (a0_3 : Int) (a0_4 : Int) (a0_5 : Int) (a0_6 : Int) (a0_7 : Int) (a0_8 : Int) (a1_0 : ByteArray) (a1_1 : Int) (a1_2 : Int) (a1_3 : Int) (a1_4 : Int) (a1_5 : Int) (a1_6 : Int) (a1_7 : Int) (a1_8 : Int) : Option (Bool) := if a0_0.toList = a1_0.toList then (if a0_1 = a1_1 then (if a0_2 = a1_2 then (if a0_3 = a1_3 then (if a0_4 = a1_4 then (if a0_5 = a1_5 then (if a0_6 = a1_6 then (if a0_7 = a1_7 then (if a0_8 = a1_8 then (some true) else (some false)) else (some false)) else (some false)) else (some false)) else (some false)) else (some false)) else (some false)) else (some false)) else (some false)
set_option maxHeartbeats 8000000 in
set_option maxRecDepth 100000 in
theorem laws_eqArticle.calls (a0_0 : ByteArray) (a0_1 : Int) (a0_2 : Int) (a0_3 : Int) (a0_4 : Int) (a0_5 : Int) (a0_6 : Int) (a0_7 : Int) (a0_8 : Int) (a1_0 : ByteArray) (a1_1 : Int) (a1_2 : Int) (a1_3 : Int) (a1_4 : Int) (a1_5 : Int) (a1_6 : Int) (a1_7 : Int) (a1_8 : Int) (r : Bool) (w : World) (h : laws_eqArticle.f a0_0 a0_1 a0_2 a0_3 a0_4 a0_5 a0_6 a0_7 a0_8 a1_0 a1_1 a1_2 a1_3 a1_4 a1_5 a1_6 a1_7 a1_8 = some r) :
  Calls Try.prog 82 #[.agg #[.string a0_0, .int .i64 a0_1, .int .i64 a0_2, .int .i64 a0_3, .int .i64 a0_4, .int .i64 a0_5, .int .i64 a0_6, .int .i64 a0_7, .int .i64 a0_8], .agg #[.string a1_0, .int .i64 a1_1, .int .i64 a1_2, .int .i64 a1_3, .int .i64 a1_4, .int .i64 a1_5, .int .i64 a1_6, .int .i64 a1_7, .int .i64 a1_8]] w fun e w' => e = .returned (.bool r) ∧ Below w.heap.size w w' := by
 have hu65 := Try.underlying65
 have HB := jA (Below.refl w.heap.size w)
 have H := h
 unfold laws_eqArticle.f at H
 clear h
 by_cases c3 : a0_0.toList = a1_0.toList
 ·rw [if_pos c3] at H
  have c3b0 : (a0_0.toList == a1_0.toList) = true := beq_iff_eq.mpr c3
  have c3b1 : (a0_0.toList != a1_0.toList) = false := bne_eq_false_iff_eq.mpr c3
  clear c3
  by_cases c4 : a0_1 = a1_1
  ·rw [if_pos c4] at H
   have c4b0 : (a0_1 == a1_1) = true := beq_iff_eq.mpr c4
   have c4b1 : (a0_1 != a1_1) = false := bne_eq_false_iff_eq.mpr c4
   clear c4
   by_cases c5 : a0_2 = a1_2
   ·rw [if_pos c5] at H
    have c5b0 : (a0_2 == a1_2) = true := beq_iff_eq.mpr c5
    have c5b1 : (a0_2 != a1_2) = false := bne_eq_false_iff_eq.mpr c5
    clear c5
    by_cases c6 : a0_3 = a1_3
    ·rw [if_pos c6] at H
     have c6b0 : (a0_3 == a1_3) = true := beq_iff_eq.mpr c6
     have c6b1 : (a0_3 != a1_3) = false := bne_eq_false_iff_eq.mpr c6
     clear c6
     by_cases c7 : a0_4 = a1_4
     ·rw [if_pos c7] at H
      have c7b0 : (a0_4 == a1_4) = true := beq_iff_eq.mpr c7
      have c7b1 : (a0_4 != a1_4) = false := bne_eq_false_iff_eq.mpr c7
      clear c7
      by_cases c8 : a0_5 = a1_5
      ·rw [if_pos c8] at H
       have c8b0 : (a0_5 == a1_5) = true := beq_iff_eq.mpr c8
       have c8b1 : (a0_5 != a1_5) = false := bne_eq_false_iff_eq.mpr c8
       clear c8
       by_cases c9 : a0_6 = a1_6
       ·rw [if_pos c9] at H
        have c9b0 : (a0_6 == a1_6) = true := beq_iff_eq.mpr c9
        have c9b1 : (a0_6 != a1_6) = false := bne_eq_false_iff_eq.mpr c9
        clear c9
        by_cases c10 : a0_7 = a1_7
        ·rw [if_pos c10] at H
         have c10b0 : (a0_7 == a1_7) = true := beq_iff_eq.mpr c10
         have c10b1 : (a0_7 != a1_7) = false := bne_eq_false_iff_eq.mpr c10
         clear c10
         by_cases c11 : a0_8 = a1_8
         ·rw [if_pos c11] at H
          have c11b0 : (a0_8 == a1_8) = true := beq_iff_eq.mpr c11
          have c11b1 : (a0_8 != a1_8) = false := bne_eq_false_iff_eq.mpr c11
          clear c11
          obtain rfl := jH H
          go_enter Try.func82, Try.ntmps82
          go_wp2_with (first | ((with_reducible refine jJ (N := 2) rfl ?_); refine zE 2 #[.string a0_0, .int .i64 a0_1, .int .i64 a0_2, .int .i64 a0_3, .int .i64 a0_4, .int .i64 a0_5, .int .i64 a0_6, .int .i64 a0_7, .int .i64 a0_8] 65 ?_; intro gb342 hg w12 hbox hb; have BK342 := jA (hbox); have GW342 := zg0 hg HB; have GE342 := zg0 hg HB; replace HB := zS0 HB hb; clear hb hbox hg) | ((with_reducible refine jJ (N := 3) rfl ?_); refine zE 3 #[.string a1_0, .int .i64 a1_1, .int .i64 a1_2, .int .i64 a1_3, .int .i64 a1_4, .int .i64 a1_5, .int .i64 a1_6, .int .i64 a1_7, .int .i64 a1_8] 65 ?_; intro gb343 hg w13 hbox hb; have BK343 := jA (hbox); have GW343 := zg1 hg HB GE342; have GE343 := zg1 hg HB GE342; replace HB := zS1 HB GE342 hb; have NB342_343 := zn hg BK342; replace BK342 := zB BK342 hb; have NB343_342 := jA NB342_343.out.symm; clear hb hbox hg; have hnb14 := NB342_343.out; have hnc14 := NB343_342.out; have hcz15 := zc9 BK342; have hcz16 := zc9 BK343))
          go_ret
          exact ⟨ze, zb2 HB GE342 GE343⟩
         ·rw [if_neg c11] at H
          have c11b0 : (a0_8 == a1_8) = false := beq_eq_false_iff_ne.mpr c11
          have c11b1 : (a0_8 != a1_8) = true := bne_iff_ne.mpr c11
          obtain rfl := jH H
          go_enter Try.func82, Try.ntmps82
          go_wp2_with (first | ((with_reducible refine jJ (N := 2) rfl ?_); refine zE 2 #[.string a0_0, .int .i64 a0_1, .int .i64 a0_2, .int .i64 a0_3, .int .i64 a0_4, .int .i64 a0_5, .int .i64 a0_6, .int .i64 a0_7, .int .i64 a0_8] 65 ?_; intro gb342 hg w17 hbox hb; have BK342 := jA (hbox); have GW342 := zg0 hg HB; have GE342 := zg0 hg HB; replace HB := zS0 HB hb; clear hb hbox hg) | ((with_reducible refine jJ (N := 3) rfl ?_); refine zE 3 #[.string a1_0, .int .i64 a1_1, .int .i64 a1_2, .int .i64 a1_3, .int .i64 a1_4, .int .i64 a1_5, .int .i64 a1_6, .int .i64 a1_7, .int .i64 a1_8] 65 ?_; intro gb343 hg w18 hbox hb; have BK343 := jA (hbox); have GW343 := zg1 hg HB GE342; have GE343 := zg1 hg HB GE342; replace HB := zS1 HB GE342 hb; have NB342_343 := zn hg BK342; replace BK342 := zB BK342 hb; have NB343_342 := jA NB342_343.out.symm; clear hb hbox hg; have hnb19 := NB342_343.out; have hnc19 := NB343_342.out; have hcz20 := zc9 BK342; have hcz21 := zc9 BK343))
          go_ret
          exact ⟨ze, zb2 HB GE342 GE343⟩
        ·rw [if_neg c10] at H
         have c10b0 : (a0_7 == a1_7) = false := beq_eq_false_iff_ne.mpr c10
         have c10b1 : (a0_7 != a1_7) = true := bne_iff_ne.mpr c10
         obtain rfl := jH H
         go_enter Try.func82, Try.ntmps82
         go_wp2_with (first | ((with_reducible refine jJ (N := 2) rfl ?_); refine zE 2 #[.string a0_0, .int .i64 a0_1, .int .i64 a0_2, .int .i64 a0_3, .int .i64 a0_4, .int .i64 a0_5, .int .i64 a0_6, .int .i64 a0_7, .int .i64 a0_8] 65 ?_; intro gb342 hg w22 hbox hb; have BK342 := jA (hbox); have GW342 := zg0 hg HB; have GE342 := zg0 hg HB; replace HB := zS0 HB hb; clear hb hbox hg) | ((with_reducible refine jJ (N := 3) rfl ?_); refine zE 3 #[.string a1_0, .int .i64 a1_1, .int .i64 a1_2, .int .i64 a1_3, .int .i64 a1_4, .int .i64 a1_5, .int .i64 a1_6, .int .i64 a1_7, .int .i64 a1_8] 65 ?_; intro gb343 hg w23 hbox hb; have BK343 := jA (hbox); have GW343 := zg1 hg HB GE342; have GE343 := zg1 hg HB GE342; replace HB := zS1 HB GE342 hb; have NB342_343 := zn hg BK342; replace BK342 := zB BK342 hb; have NB343_342 := jA NB342_343.out.symm; clear hb hbox hg; have hnb24 := NB342_343.out; have hnc24 := NB343_342.out; have hcz25 := zc9 BK342; have hcz26 := zc9 BK343))
         go_ret
         exact ⟨ze, zb2 HB GE342 GE343⟩
       ·rw [if_neg c9] at H
        have c9b0 : (a0_6 == a1_6) = false := beq_eq_false_iff_ne.mpr c9
        have c9b1 : (a0_6 != a1_6) = true := bne_iff_ne.mpr c9
        obtain rfl := jH H
        go_enter Try.func82, Try.ntmps82
        go_wp2_with (first | ((with_reducible refine jJ (N := 2) rfl ?_); refine zE 2 #[.string a0_0, .int .i64 a0_1, .int .i64 a0_2, .int .i64 a0_3, .int .i64 a0_4, .int .i64 a0_5, .int .i64 a0_6, .int .i64 a0_7, .int .i64 a0_8] 65 ?_; intro gb342 hg w27 hbox hb; have BK342 := jA (hbox); have GW342 := zg0 hg HB; have GE342 := zg0 hg HB; replace HB := zS0 HB hb; clear hb hbox hg) | ((with_reducible refine jJ (N := 3) rfl ?_); refine zE 3 #[.string a1_0, .int .i64 a1_1, .int .i64 a1_2, .int .i64 a1_3, .int .i64 a1_4, .int .i64 a1_5, .int .i64 a1_6, .int .i64 a1_7, .int .i64 a1_8] 65 ?_; intro gb343 hg w28 hbox hb; have BK343 := jA (hbox); have GW343 := zg1 hg HB GE342; have GE343 := zg1 hg HB GE342; replace HB := zS1 HB GE342 hb; have NB342_343 := zn hg BK342; replace BK342 := zB BK342 hb; have NB343_342 := jA NB342_343.out.symm; clear hb hbox hg; have hnb29 := NB342_343.out; have hnc29 := NB343_342.out; have hcz30 := zc9 BK342; have hcz31 := zc9 BK343))
        go_ret
        exact ⟨ze, zb2 HB GE342 GE343⟩
      ·rw [if_neg c8] at H
       have c8b0 : (a0_5 == a1_5) = false := beq_eq_false_iff_ne.mpr c8
       have c8b1 : (a0_5 != a1_5) = true := bne_iff_ne.mpr c8
       obtain rfl := jH H
       go_enter Try.func82, Try.ntmps82
       go_wp2_with (first | ((with_reducible refine jJ (N := 2) rfl ?_); refine zE 2 #[.string a0_0, .int .i64 a0_1, .int .i64 a0_2, .int .i64 a0_3, .int .i64 a0_4, .int .i64 a0_5, .int .i64 a0_6, .int .i64 a0_7, .int .i64 a0_8] 65 ?_; intro gb342 hg w32 hbox hb; have BK342 := jA (hbox); have GW342 := zg0 hg HB; have GE342 := zg0 hg HB; replace HB := zS0 HB hb; clear hb hbox hg) | ((with_reducible refine jJ (N := 3) rfl ?_); refine zE 3 #[.string a1_0, .int .i64 a1_1, .int .i64 a1_2, .int .i64 a1_3, .int .i64 a1_4, .int .i64 a1_5, .int .i64 a1_6, .int .i64 a1_7, .int .i64 a1_8] 65 ?_; intro gb343 hg w33 hbox hb; have BK343 := jA (hbox); have GW343 := zg1 hg HB GE342; have GE343 := zg1 hg HB GE342; replace HB := zS1 HB GE342 hb; have NB342_343 := zn hg BK342; replace BK342 := zB BK342 hb; have NB343_342 := jA NB342_343.out.symm; clear hb hbox hg; have hnb34 := NB342_343.out; have hnc34 := NB343_342.out; have hcz35 := zc9 BK342; have hcz36 := zc9 BK343))
       go_ret
       exact ⟨ze, zb2 HB GE342 GE343⟩
     ·rw [if_neg c7] at H
      have c7b0 : (a0_4 == a1_4) = false := beq_eq_false_iff_ne.mpr c7
      have c7b1 : (a0_4 != a1_4) = true := bne_iff_ne.mpr c7
      obtain rfl := jH H
      go_enter Try.func82, Try.ntmps82
      go_wp2_with (first | ((with_reducible refine jJ (N := 2) rfl ?_); refine zE 2 #[.string a0_0, .int .i64 a0_1, .int .i64 a0_2, .int .i64 a0_3, .int .i64 a0_4, .int .i64 a0_5, .int .i64 a0_6, .int .i64 a0_7, .int .i64 a0_8] 65 ?_; intro gb342 hg w37 hbox hb; have BK342 := jA (hbox); have GW342 := zg0 hg HB; have GE342 := zg0 hg HB; replace HB := zS0 HB hb; clear hb hbox hg) | ((with_reducible refine jJ (N := 3) rfl ?_); refine zE 3 #[.string a1_0, .int .i64 a1_1, .int .i64 a1_2, .int .i64 a1_3, .int .i64 a1_4, .int .i64 a1_5, .int .i64 a1_6, .int .i64 a1_7, .int .i64 a1_8] 65 ?_; intro gb343 hg w38 hbox hb; have BK343 := jA (hbox); have GW343 := zg1 hg HB GE342; have GE343 := zg1 hg HB GE342; replace HB := zS1 HB GE342 hb; have NB342_343 := zn hg BK342; replace BK342 := zB BK342 hb; have NB343_342 := jA NB342_343.out.symm; clear hb hbox hg; have hnb39 := NB342_343.out; have hnc39 := NB343_342.out; have hcz40 := zc9 BK342; have hcz41 := zc9 BK343))
      go_ret
      exact ⟨ze, zb2 HB GE342 GE343⟩
    ·rw [if_neg c6] at H
     have c6b0 : (a0_3 == a1_3) = false := beq_eq_false_iff_ne.mpr c6
     have c6b1 : (a0_3 != a1_3) = true := bne_iff_ne.mpr c6
     obtain rfl := jH H
     go_enter Try.func82, Try.ntmps82
     go_wp2_with (first | ((with_reducible refine jJ (N := 2) rfl ?_); refine zE 2 #[.string a0_0, .int .i64 a0_1, .int .i64 a0_2, .int .i64 a0_3, .int .i64 a0_4, .int .i64 a0_5, .int .i64 a0_6, .int .i64 a0_7, .int .i64 a0_8] 65 ?_; intro gb342 hg w42 hbox hb; have BK342 := jA (hbox); have GW342 := zg0 hg HB; have GE342 := zg0 hg HB; replace HB := zS0 HB hb; clear hb hbox hg) | ((with_reducible refine jJ (N := 3) rfl ?_); refine zE 3 #[.string a1_0, .int .i64 a1_1, .int .i64 a1_2, .int .i64 a1_3, .int .i64 a1_4, .int .i64 a1_5, .int .i64 a1_6, .int .i64 a1_7, .int .i64 a1_8] 65 ?_; intro gb343 hg w43 hbox hb; have BK343 := jA (hbox); have GW343 := zg1 hg HB GE342; have GE343 := zg1 hg HB GE342; replace HB := zS1 HB GE342 hb; have NB342_343 := zn hg BK342; replace BK342 := zB BK342 hb; have NB343_342 := jA NB342_343.out.symm; clear hb hbox hg; have hnb44 := NB342_343.out; have hnc44 := NB343_342.out; have hcz45 := zc9 BK342; have hcz46 := zc9 BK343))
     go_ret
     exact ⟨ze, zb2 HB GE342 GE343⟩
   ·rw [if_neg c5] at H
    have c5b0 : (a0_2 == a1_2) = false := beq_eq_false_iff_ne.mpr c5
    have c5b1 : (a0_2 != a1_2) = true := bne_iff_ne.mpr c5
    obtain rfl := jH H
    go_enter Try.func82, Try.ntmps82
    go_wp2_with (first | ((with_reducible refine jJ (N := 2) rfl ?_); refine zE 2 #[.string a0_0, .int .i64 a0_1, .int .i64 a0_2, .int .i64 a0_3, .int .i64 a0_4, .int .i64 a0_5, .int .i64 a0_6, .int .i64 a0_7, .int .i64 a0_8] 65 ?_; intro gb342 hg w47 hbox hb; have BK342 := jA (hbox); have GW342 := zg0 hg HB; have GE342 := zg0 hg HB; replace HB := zS0 HB hb; clear hb hbox hg) | ((with_reducible refine jJ (N := 3) rfl ?_); refine zE 3 #[.string a1_0, .int .i64 a1_1, .int .i64 a1_2, .int .i64 a1_3, .int .i64 a1_4, .int .i64 a1_5, .int .i64 a1_6, .int .i64 a1_7, .int .i64 a1_8] 65 ?_; intro gb343 hg w48 hbox hb; have BK343 := jA (hbox); have GW343 := zg1 hg HB GE342; have GE343 := zg1 hg HB GE342; replace HB := zS1 HB GE342 hb; have NB342_343 := zn hg BK342; replace BK342 := zB BK342 hb; have NB343_342 := jA NB342_343.out.symm; clear hb hbox hg; have hnb49 := NB342_343.out; have hnc49 := NB343_342.out; have hcz50 := zc9 BK342; have hcz51 := zc9 BK343))
    go_ret
    exact ⟨ze, zb2 HB GE342 GE343⟩
  ·rw [if_neg c4] at H
   have c4b0 : (a0_1 == a1_1) = false := beq_eq_false_iff_ne.mpr c4
   have c4b1 : (a0_1 != a1_1) = true := bne_iff_ne.mpr c4
   obtain rfl := jH H
   go_enter Try.func82, Try.ntmps82
   go_wp2_with (first | ((with_reducible refine jJ (N := 2) rfl ?_); refine zE 2 #[.string a0_0, .int .i64 a0_1, .int .i64 a0_2, .int .i64 a0_3, .int .i64 a0_4, .int .i64 a0_5, .int .i64 a0_6, .int .i64 a0_7, .int .i64 a0_8] 65 ?_; intro gb342 hg w52 hbox hb; have BK342 := jA (hbox); have GW342 := zg0 hg HB; have GE342 := zg0 hg HB; replace HB := zS0 HB hb; clear hb hbox hg) | ((with_reducible refine jJ (N := 3) rfl ?_); refine zE 3 #[.string a1_0, .int .i64 a1_1, .int .i64 a1_2, .int .i64 a1_3, .int .i64 a1_4, .int .i64 a1_5, .int .i64 a1_6, .int .i64 a1_7, .int .i64 a1_8] 65 ?_; intro gb343 hg w53 hbox hb; have BK343 := jA (hbox); have GW343 := zg1 hg HB GE342; have GE343 := zg1 hg HB GE342; replace HB := zS1 HB GE342 hb; have NB342_343 := zn hg BK342; replace BK342 := zB BK342 hb; have NB343_342 := jA NB342_343.out.symm; clear hb hbox hg; have hnb54 := NB342_343.out; have hnc54 := NB343_342.out; have hcz55 := zc9 BK342; have hcz56 := zc9 BK343))
   go_ret
   exact ⟨ze, zb2 HB GE342 GE343⟩
 ·rw [if_neg c3] at H
  have c3b0 : (a0_0.toList == a1_0.toList) = false := beq_eq_false_iff_ne.mpr c3
  have c3b1 : (a0_0.toList != a1_0.toList) = true := bne_iff_ne.mpr c3
  obtain rfl := jH H
  go_enter Try.func82, Try.ntmps82
  go_wp2_with (first | ((with_reducible refine jJ (N := 2) rfl ?_); refine zE 2 #[.string a0_0, .int .i64 a0_1, .int .i64 a0_2, .int .i64 a0_3, .int .i64 a0_4, .int .i64 a0_5, .int .i64 a0_6, .int .i64 a0_7, .int .i64 a0_8] 65 ?_; intro gb342 hg w57 hbox hb; have BK342 := jA (hbox); have GW342 := zg0 hg HB; have GE342 := zg0 hg HB; replace HB := zS0 HB hb; clear hb hbox hg) | ((with_reducible refine jJ (N := 3) rfl ?_); refine zE 3 #[.string a1_0, .int .i64 a1_1, .int .i64 a1_2, .int .i64 a1_3, .int .i64 a1_4, .int .i64 a1_5, .int .i64 a1_6, .int .i64 a1_7, .int .i64 a1_8] 65 ?_; intro gb343 hg w58 hbox hb; have BK343 := jA (hbox); have GW343 := zg1 hg HB GE342; have GE343 := zg1 hg HB GE342; replace HB := zS1 HB GE342 hb; have NB342_343 := zn hg BK342; replace BK342 := zB BK342 hb; have NB343_342 := jA NB342_343.out.symm; clear hb hbox hg; have hnb59 := NB342_343.out; have hnc59 := NB343_342.out; have hcz60 := zc9 BK342; have hcz61 := zc9 BK343))
  go_ret
  exact ⟨ze, zb2 HB GE342 GE343⟩

end Go.Proofs.Ytdgglhfnlljmeaa.PFnExactMovePieces
