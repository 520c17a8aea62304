/- Functions and contracts that FnProofs reaches (4 of 22). -/
import Derived.Test.YthieppjmjgijfaaQFnProofsx2
namespace Go.Proofs.Ythieppjmjgijfaa.PFnProofs
open Go.RowKit Go.Proofs.YthieppjmjgijfaaW.PrintWords Go.Proofs.YthieppjmjgijfaaW.PrintLast Go.Proofs.YthieppjmjgijfaaW.PrintMore
attribute [local go_sem] max2_int min2_int max_two min_two max_three min_three max_four min_four   -- for this text's walks alone
set_option linter.unusedVariables false
set_option linter.unusedSimpArgs false

/-! ### spec_l21Give: function 87 -/
def spec_l21Give.f (a0_0 : Bool) (a0_1 : Bool) (a0_2 : Bool) (a0_3 : Bool) (a0_4 : Bool) (a0_5 : Int) (a1 : Int) : Option (Bool × Bool × Bool × Bool × Bool × Int × Bool) := if a1 = 0 then (if a0_0 = true then ((spec_l21Off.f (!a0_0) a0_1 a0_2 a0_3 a0_4 a0_5).bind fun bt168 => (some (bt168.1, bt168.2.1, bt168.2.2.1, bt168.2.2.2.1, bt168.2.2.2.2.1, bt168.2.2.2.2.2, true))) else (some (!a0_0, a0_1, a0_2, a0_3, a0_4, a0_5, true))) else (if a1 = 1 then (if a0_1 = true then ((spec_l21Off.f a0_0 (!a0_1) a0_2 a0_3 a0_4 a0_5).bind fun bt174 => (some (bt174.1, bt174.2.1, bt174.2.2.1, bt174.2.2.2.1, bt174.2.2.2.2.1, bt174.2.2.2.2.2, true))) else (some (a0_0, !a0_1, a0_2, a0_3, a0_4, a0_5, true))) else (if a1 = 2 then (if a0_0 = true then (if a0_1 = true then (if a0_4 = true then (some (a0_0, a0_1, a0_2, a0_3, a0_4, a0_5, false)) else (some (a0_0, a0_1, true, false, a0_4, 0, true))) else (some (a0_0, a0_1, a0_2, a0_3, a0_4, a0_5, false))) else (some (a0_0, a0_1, a0_2, a0_3, a0_4, a0_5, false))) else (if a1 = 3 then ((spec_l21Off.f a0_0 a0_1 a0_2 a0_3 a0_4 a0_5).bind fun bt180 => (some (bt180.1, bt180.2.1, bt180.2.2.1, bt180.2.2.2.1, bt180.2.2.2.2.1, bt180.2.2.2.2.2, true))) else (if a1 = 4 then (if a0_2 = true then (if a0_3 = true then (some (a0_0, a0_1, a0_2, a0_3, a0_4, a0_5, false)) else (some (a0_0, a0_1, a0_2, true, a0_4, a0_5, true))) else (some (a0_0, a0_1, a0_2, a0_3, a0_4, a0_5, false))) else (if a1 = 5 then (if a0_3 = true then (some (a0_0, a0_1, a0_2, false, a0_4, a0_5, true)) else (some (a0_0, a0_1, a0_2, a0_3, a0_4, a0_5, false))) else (if a1 = 6 then ((spec_l21Off.f a0_0 a0_1 a0_2 a0_3 a0_4 a0_5).bind fun bt186 => (some (bt186.1, bt186.2.1, bt186.2.2.1, bt186.2.2.2.1, true, bt186.2.2.2.2.2, true))) else (if a1 = 7 then (some (a0_0, a0_1, a0_2, a0_3, a0_4, 0, true)) else (if a1 = 8 then (if (mn 4 (wrap64 (a0_5 + 1))) > 3 then ((spec_l21Off.f a0_0 a0_1 a0_2 a0_3 a0_4 (mn 4 (wrap64 (a0_5 + 1)))).bind fun bt192 => (some (bt192.1, bt192.2.1, bt192.2.2.1, bt192.2.2.2.1, bt192.2.2.2.2.1, bt192.2.2.2.2.2, true))) else (some (a0_0, a0_1, a0_2, a0_3, a0_4, mn 4 (wrap64 (a0_5 + 1)), true))) else (if a0_4 = true then (if a0_0 = true then (some (a0_0, a0_1, a0_2, a0_3, a0_4, a0_5, false)) else (if a0_1 = true then (some (a0_0, a0_1, a0_2, a0_3, a0_4, a0_5, false)) else (some (a0_0, a0_1, a0_2, a0_3, false, a0_5, true)))) else (some (a0_0, a0_1, a0_2, a0_3, a0_4, a0_5, false)))))))))))
set_option maxHeartbeats 8000000 in
set_option maxRecDepth 100000 in
theorem spec_l21Give.calls (a0_0 : Bool) (a0_1 : Bool) (a0_2 : Bool) (a0_3 : Bool) (a0_4 : Bool) (a0_5 : Int) (a1 : Int) (r1 : Bool) (r2 : Bool) (r3 : Bool) (r4 : Bool) (r5 : Bool) (r6 : Int) (r7 : Bool) (w : World) (h : spec_l21Give.f a0_0 a0_1 a0_2 a0_3 a0_4 a0_5 a1 = some (r1, r2, r3, r4, r5, r6, r7)) :
  Calls Try.prog 87 #[.agg #[.bool a0_0, .bool a0_1, .bool a0_2, .bool a0_3, .bool a0_4, .int .i64 a0_5], .int .i64 a1] w fun e w' => e = .returned (.tuple #[.agg #[.bool r1, .bool r2, .bool r3, .bool r4, .bool r5, .int .i64 r6], .bool r7]) ∧ Below w.heap.size w w' := by
 have hu23 := Try.underlying23
 have HB := jA (Below.refl w.heap.size w)
 have H := h
 unfold spec_l21Give.f at H
 clear h
 by_cases c3 : a1 = 0
 ·rw [if_pos c3] at H
  have c3b0 : (a1 == 0) = true := beq_iff_eq.mpr c3
  have c3b1 : (a1 != 0) = false := bne_eq_false_iff_eq.mpr c3
  clear c3
  by_cases c4 : a0_0 = true
  ·subst c4
   rw [if_pos rfl] at H
   replace H := jC.mp H
   obtain ⟨⟨t168, t169, t170, t171, t172, t173⟩, A50, H⟩ := H
   try dsimp only at H
   have A5 := jA A50
   clear A50
   simp only [jH, jK] at H
   obtain ⟨rfl, rfl, rfl, rfl, rfl, rfl, rfl⟩ := H
   go_enter Try.func87, Try.ntmps87
   go_wp2_with (first | ((with_reducible refine jJ (N := 2) rfl ?_); refine zE 2 #[.bool true, .bool a0_1, .bool a0_2, .bool a0_3, .bool a0_4, .int .i64 a0_5] 23 ?_; intro gb166 hg w6 hbox hb; have BK166 := jA (hbox); have GW166 := zg0 hg HB; have GE166 := zg0 hg HB; replace HB := zS0 HB hb; clear hb hbox hg) | ((with_reducible refine jJ (N := 4) rfl ?_); refine zE 4 #[.bool false, .bool false, .bool false, .bool false, .bool false, .int .i64 0] 23 ?_; intro gb167 hg w7 hbox hb; have BK167 := jA (hbox); have GW167 := zg1 hg HB GE166; have GE167 := zg1 hg HB GE166; replace HB := zS1 HB GE166 hb; have NB166_167 := zn hg BK166; replace BK166 := zB BK166 hb; have NB167_166 := jA NB166_167.out.symm; clear hb hbox hg; have hnb8 := NB166_167.out; have hnc8 := NB167_166.out; have hcz9 := zc6 BK166) | ((with_reducible refine jG (f := 91) rfl ?_); refine zL (some 30) Try.func91 #[.agg #[.bool (!true), .bool a0_1, .bool a0_2, .bool a0_3, .bool a0_4, .int .i64 a0_5]] ?_; (with_reducible refine (spec_l21Off.calls (!true) a0_1 a0_2 a0_3 a0_4 a0_5 t168 t169 t170 t171 t172 t173 _ A5.out).mono ?_); rintro e w10 ⟨rfl, hb⟩; refine ⟨_, rfl, ?_⟩; replace BK166 := jA (jU (g := gb166) (o := .cells #[.bool (!true), .bool a0_1, .bool a0_2, .bool a0_3, .bool a0_4, .int .i64 a0_5] 23 (0, 0)) (zP0 BK166) hb); replace BK167 := jA (jU (g := gb167) (o := .cells #[.bool false, .bool false, .bool false, .bool false, .bool false, .int .i64 0] 23 (0, 0)) (zQ1 BK167 NB167_166) hb); replace HB := zS2 HB GE166 GE167 hb; clear hb; have hcz11 := zc6 BK166; have hcz12 := zc6 BK167))
   refine jQ (results_ct rfl _ _ gb167 23 #[.bool t168, .bool t169, .bool t170, .bool t171, .bool t172, .int .i64 t173] (0, 0) _ rfl (zP1 BK167 NB167_166) Try.underlying23 rfl zr) rfl ?_
   exact ⟨ze, zb2 HB GE166 GE167⟩
  ·replace c4 := Bool.eq_false_iff.mpr c4
   subst c4
   rw [if_neg zfalse] at H
   simp only [jH, jK] at H
   obtain ⟨rfl, rfl, rfl, rfl, rfl, rfl, rfl⟩ := H
   go_enter Try.func87, Try.ntmps87
   go_wp2_with (first | ((with_reducible refine jJ (N := 2) rfl ?_); refine zE 2 #[.bool false, .bool a0_1, .bool a0_2, .bool a0_3, .bool a0_4, .int .i64 a0_5] 23 ?_; intro gb166 hg w13 hbox hb; have BK166 := jA (hbox); have GW166 := zg0 hg HB; have GE166 := zg0 hg HB; replace HB := zS0 HB hb; clear hb hbox hg) | ((with_reducible refine jJ (N := 4) rfl ?_); refine zE 4 #[.bool false, .bool false, .bool false, .bool false, .bool false, .int .i64 0] 23 ?_; intro gb167 hg w14 hbox hb; have BK167 := jA (hbox); have GW167 := zg1 hg HB GE166; have GE167 := zg1 hg HB GE166; replace HB := zS1 HB GE166 hb; have NB166_167 := zn hg BK166; replace BK166 := zB BK166 hb; have NB167_166 := jA NB166_167.out.symm; clear hb hbox hg; have hnb15 := NB166_167.out; have hnc15 := NB167_166.out; have hcz16 := zc6 BK166; have hcz17 := zc6 BK167))
   refine jQ (results_ct rfl _ _ gb167 23 #[.bool (!false), .bool a0_1, .bool a0_2, .bool a0_3, .bool a0_4, .int .i64 a0_5] (0, 0) _ rfl (zP1 BK167 NB167_166) Try.underlying23 rfl zr) rfl ?_
   exact ⟨ze, zb2 HB GE166 GE167⟩
 ·rw [if_neg c3] at H
  have c3b0 : (a1 == 0) = false := beq_eq_false_iff_ne.mpr c3
  have c3b1 : (a1 != 0) = true := bne_iff_ne.mpr c3
  by_cases c18 : a1 = 1
  ·rw [if_pos c18] at H
   have c18b0 : (a1 == 1) = true := beq_iff_eq.mpr c18
   have c18b1 : (a1 != 1) = false := bne_eq_false_iff_eq.mpr c18
   clear c18
   by_cases c19 : a0_1 = true
   ·subst c19
    rw [if_pos rfl] at H
    replace H := jC.mp H
    obtain ⟨⟨t174, t175, t176, t177, t178, t179⟩, A200, H⟩ := H
    try dsimp only at H
    have A20 := jA A200
    clear A200
    simp only [jH, jK] at H
    obtain ⟨rfl, rfl, rfl, rfl, rfl, rfl, rfl⟩ := H
    go_enter Try.func87, Try.ntmps87
    go_wp2_with (first | ((with_reducible refine jJ (N := 2) rfl ?_); refine zE 2 #[.bool a0_0, .bool true, .bool a0_2, .bool a0_3, .bool a0_4, .int .i64 a0_5] 23 ?_; intro gb166 hg w21 hbox hb; have BK166 := jA (hbox); have GW166 := zg0 hg HB; have GE166 := zg0 hg HB; replace HB := zS0 HB hb; clear hb hbox hg) | ((with_reducible refine jJ (N := 4) rfl ?_); refine zE 4 #[.bool false, .bool false, .bool false, .bool false, .bool false, .int .i64 0] 23 ?_; intro gb167 hg w22 hbox hb; have BK167 := jA (hbox); have GW167 := zg1 hg HB GE166; have GE167 := zg1 hg HB GE166; replace HB := zS1 HB GE166 hb; have NB166_167 := zn hg BK166; replace BK166 := zB BK166 hb; have NB167_166 := jA NB166_167.out.symm; clear hb hbox hg; have hnb23 := NB166_167.out; have hnc23 := NB167_166.out; have hcz24 := zc6 BK166) | ((with_reducible refine jG (f := 91) rfl ?_); refine zL (some 41) Try.func91 #[.agg #[.bool a0_0, .bool (!true), .bool a0_2, .bool a0_3, .bool a0_4, .int .i64 a0_5]] ?_; (with_reducible refine (spec_l21Off.calls a0_0 (!true) a0_2 a0_3 a0_4 a0_5 t174 t175 t176 t177 t178 t179 _ A20.out).mono ?_); rintro e w25 ⟨rfl, hb⟩; refine ⟨_, rfl, ?_⟩; replace BK166 := jA (jU (g := gb166) (o := .cells #[.bool a0_0, .bool (!true), .bool a0_2, .bool a0_3, .bool a0_4, .int .i64 a0_5] 23 (0, 0)) (zP0 BK166) hb); replace BK167 := jA (jU (g := gb167) (o := .cells #[.bool false, .bool false, .bool false, .bool false, .bool false, .int .i64 0] 23 (0, 0)) (zQ1 BK167 NB167_166) hb); replace HB := zS2 HB GE166 GE167 hb; clear hb; have hcz26 := zc6 BK166; have hcz27 := zc6 BK167))
    refine jQ (results_ct rfl _ _ gb167 23 #[.bool t174, .bool t175, .bool t176, .bool t177, .bool t178, .int .i64 t179] (0, 0) _ rfl (zP1 BK167 NB167_166) Try.underlying23 rfl zr) rfl ?_
    exact ⟨ze, zb2 HB GE166 GE167⟩
   ·replace c19 := Bool.eq_false_iff.mpr c19
    subst c19
    rw [if_neg zfalse] at H
    simp only [jH, jK] at H
    obtain ⟨rfl, rfl, rfl, rfl, rfl, rfl, rfl⟩ := H
    go_enter Try.func87, Try.ntmps87
    go_wp2_with (first | ((with_reducible refine jJ (N := 2) rfl ?_); refine zE 2 #[.bool a0_0, .bool false, .bool a0_2, .bool a0_3, .bool a0_4, .int .i64 a0_5] 23 ?_; intro gb166 hg w28 hbox hb; have BK166 := jA (hbox); have GW166 := zg0 hg HB; have GE166 := zg0 hg HB; replace HB := zS0 HB hb; clear hb hbox hg) | ((with_reducible refine jJ (N := 4) rfl ?_); refine zE 4 #[.bool false, .bool false, .bool false, .bool false, .bool false, .int .i64 0] 23 ?_; intro gb167 hg w29 hbox hb; have BK167 := jA (hbox); have GW167 := zg1 hg HB GE166; have GE167 := zg1 hg HB GE166; replace HB := zS1 HB GE166 hb; have NB166_167 := zn hg BK166; replace BK166 := zB BK166 hb; have NB167_166 := jA NB166_167.out.symm; clear hb hbox hg; have hnb30 := NB166_167.out; have hnc30 := NB167_166.out; have hcz31 := zc6 BK166; have hcz32 := zc6 BK167))
    refine jQ (results_ct rfl _ _ gb167 23 #[.bool a0_0, .bool (!false), .bool a0_2, .bool a0_3, .bool a0_4, .int .i64 a0_5] (0, 0) _ rfl (zP1 BK167 NB167_166) Try.underlying23 rfl zr) rfl ?_
    exact ⟨ze, zb2 HB GE166 GE167⟩
  ·rw [if_neg c18] at H
   have c18b0 : (a1 == 1) = false := beq_eq_false_iff_ne.mpr c18
   have c18b1 : (a1 != 1) = true := bne_iff_ne.mpr c18
   by_cases c33 : a1 = 2
   ·rw [if_pos c33] at H
    have c33b0 : (a1 == 2) = true := beq_iff_eq.mpr c33
    have c33b1 : (a1 != 2) = false := bne_eq_false_iff_eq.mpr c33
    clear c33
    by_cases c34 : a0_0 = true
    ·subst c34
     rw [if_pos rfl] at H
     by_cases c35 : a0_1 = true
     ·subst c35
      rw [if_pos rfl] at H
      by_cases c36 : a0_4 = true
      ·subst c36
       rw [if_pos rfl] at H
       simp only [jH, jK] at H
       obtain ⟨rfl, rfl, rfl, rfl, rfl, rfl, rfl⟩ := H
       go_enter Try.func87, Try.ntmps87
       go_wp2_with (first | ((with_reducible refine jJ (N := 2) rfl ?_); refine zE 2 #[.bool true, .bool true, .bool a0_2, .bool a0_3, .bool true, .int .i64 a0_5] 23 ?_; intro gb166 hg w37 hbox hb; have BK166 := jA (hbox); have GW166 := zg0 hg HB; have GE166 := zg0 hg HB; replace HB := zS0 HB hb; clear hb hbox hg) | ((with_reducible refine jJ (N := 4) rfl ?_); refine zE 4 #[.bool false, .bool false, .bool false, .bool false, .bool false, .int .i64 0] 23 ?_; intro gb167 hg w38 hbox hb; have BK167 := jA (hbox); have GW167 := zg1 hg HB GE166; have GE167 := zg1 hg HB GE166; replace HB := zS1 HB GE166 hb; have NB166_167 := zn hg BK166; replace BK166 := zB BK166 hb; have NB167_166 := jA NB166_167.out.symm; clear hb hbox hg; have hnb39 := NB166_167.out; have hnc39 := NB167_166.out; have hcz40 := zc6 BK166; have hcz41 := zc6 BK167))
       refine jQ (results_ct rfl _ _ gb167 23 #[.bool true, .bool true, .bool a0_2, .bool a0_3, .bool true, .int .i64 a0_5] (0, 0) _ rfl (zP0 BK167) Try.underlying23 rfl zr) rfl ?_
       exact ⟨ze, zb2 HB GE166 GE167⟩
      ·replace c36 := Bool.eq_false_iff.mpr c36
       subst c36
       rw [if_neg zfalse] at H
       simp only [jH, jK] at H
       obtain ⟨rfl, rfl, rfl, rfl, rfl, rfl, rfl⟩ := H
       go_enter Try.func87, Try.ntmps87
       go_wp2_with (first | ((with_reducible refine jJ (N := 2) rfl ?_); refine zE 2 #[.bool true, .bool true, .bool a0_2, .bool a0_3, .bool false, .int .i64 a0_5] 23 ?_; intro gb166 hg w42 hbox hb; have BK166 := jA (hbox); have GW166 := zg0 hg HB; have GE166 := zg0 hg HB; replace HB := zS0 HB hb; clear hb hbox hg) | ((with_reducible refine jJ (N := 4) rfl ?_); refine zE 4 #[.bool false, .bool false, .bool false, .bool false, .bool false, .int .i64 0] 23 ?_; intro gb167 hg w43 hbox hb; have BK167 := jA (hbox); have GW167 := zg1 hg HB GE166; have GE167 := zg1 hg HB GE166; replace HB := zS1 HB GE166 hb; have NB166_167 := zn hg BK166; replace BK166 := zB BK166 hb; have NB167_166 := jA NB166_167.out.symm; clear hb hbox hg; have hnb44 := NB166_167.out; have hnc44 := NB167_166.out; have hcz45 := zc6 BK166; have hcz46 := zc6 BK167))
       refine jQ (results_ct rfl _ _ gb167 23 #[.bool true, .bool true, .bool true, .bool false, .bool false, .int .i64 0] (0, 0) _ rfl (zP1 BK167 NB167_166) Try.underlying23 rfl zr) rfl ?_
       exact ⟨ze, zb2 HB GE166 GE167⟩
     ·replace c35 := Bool.eq_false_iff.mpr c35
      subst c35
      rw [if_neg zfalse] at H
      simp only [jH, jK] at H
      obtain ⟨rfl, rfl, rfl, rfl, rfl, rfl, rfl⟩ := H
      go_enter Try.func87, Try.ntmps87
      go_wp2_with (first | ((with_reducible refine jJ (N := 2) rfl ?_); refine zE 2 #[.bool true, .bool false, .bool a0_2, .bool a0_3, .bool a0_4, .int .i64 a0_5] 23 ?_; intro gb166 hg w47 hbox hb; have BK166 := jA (hbox); have GW166 := zg0 hg HB; have GE166 := zg0 hg HB; replace HB := zS0 HB hb; clear hb hbox hg) | ((with_reducible refine jJ (N := 4) rfl ?_); refine zE 4 #[.bool false, .bool false, .bool false, .bool false, .bool false, .int .i64 0] 23 ?_; intro gb167 hg w48 hbox hb; have BK167 := jA (hbox); have GW167 := zg1 hg HB GE166; have GE167 := zg1 hg HB GE166; replace HB := zS1 HB GE166 hb; have NB166_167 := zn hg BK166; replace BK166 := zB BK166 hb; have NB167_166 := jA NB166_167.out.symm; clear hb hbox hg; have hnb49 := NB166_167.out; have hnc49 := NB167_166.out; have hcz50 := zc6 BK166; have hcz51 := zc6 BK167))
      refine jQ (results_ct rfl _ _ gb167 23 #[.bool true, .bool false, .bool a0_2, .bool a0_3, .bool a0_4, .int .i64 a0_5] (0, 0) _ rfl (zP0 BK167) Try.underlying23 rfl zr) rfl ?_
      exact ⟨ze, zb2 HB GE166 GE167⟩
    ·replace c34 := Bool.eq_false_iff.mpr c34
     subst c34
     rw [if_neg zfalse] at H
     simp only [jH, jK] at H
     obtain ⟨rfl, rfl, rfl, rfl, rfl, rfl, rfl⟩ := H
     go_enter Try.func87, Try.ntmps87
     go_wp2_with (first | ((with_reducible refine jJ (N := 2) rfl ?_); refine zE 2 #[.bool false, .bool a0_1, .bool a0_2, .bool a0_3, .bool a0_4, .int .i64 a0_5] 23 ?_; intro gb166 hg w52 hbox hb; have BK166 := jA (hbox); have GW166 := zg0 hg HB; have GE166 := zg0 hg HB; replace HB := zS0 HB hb; clear hb hbox hg) | ((with_reducible refine jJ (N := 4) rfl ?_); refine zE 4 #[.bool false, .bool false, .bool false, .bool false, .bool false, .int .i64 0] 23 ?_; intro gb167 hg w53 hbox hb; have BK167 := jA (hbox); have GW167 := zg1 hg HB GE166; have GE167 := zg1 hg HB GE166; replace HB := zS1 HB GE166 hb; have NB166_167 := zn hg BK166; replace BK166 := zB BK166 hb; have NB167_166 := jA NB166_167.out.symm; clear hb hbox hg; have hnb54 := NB166_167.out; have hnc54 := NB167_166.out; have hcz55 := zc6 BK166; have hcz56 := zc6 BK167))
     refine jQ (results_ct rfl _ _ gb167 23 #[.bool false, .bool a0_1, .bool a0_2, .bool a0_3, .bool a0_4, .int .i64 a0_5] (0, 0) _ rfl (zP0 BK167) Try.underlying23 rfl zr) rfl ?_
     exact ⟨ze, zb2 HB GE166 GE167⟩
   ·rw [if_neg c33] at H
    have c33b0 : (a1 == 2) = false := beq_eq_false_iff_ne.mpr c33
    have c33b1 : (a1 != 2) = true := bne_iff_ne.mpr c33
    by_cases c57 : a1 = 3
    ·rw [if_pos c57] at H
     have c57b0 : (a1 == 3) = true := beq_iff_eq.mpr c57
     have c57b1 : (a1 != 3) = false := bne_eq_false_iff_eq.mpr c57
     clear c57
     replace H := jC.mp H
     obtain ⟨⟨t180, t181, t182, t183, t184, t185⟩, A580, H⟩ := H
     try dsimp only at H
     have A58 := jA A580
     clear A580
     simp only [jH, jK] at H
     obtain ⟨rfl, rfl, rfl, rfl, rfl, rfl, rfl⟩ := H
     go_enter Try.func87, Try.ntmps87
     go_wp2_with (first | ((with_reducible refine jJ (N := 2) rfl ?_); refine zE 2 #[.bool a0_0, .bool a0_1, .bool a0_2, .bool a0_3, .bool a0_4, .int .i64 a0_5] 23 ?_; intro gb166 hg w59 hbox hb; have BK166 := jA (hbox); have GW166 := zg0 hg HB; have GE166 := zg0 hg HB; replace HB := zS0 HB hb; clear hb hbox hg) | ((with_reducible refine jJ (N := 4) rfl ?_); refine zE 4 #[.bool false, .bool false, .bool false, .bool false, .bool false, .int .i64 0] 23 ?_; intro gb167 hg w60 hbox hb; have BK167 := jA (hbox); have GW167 := zg1 hg HB GE166; have GE167 := zg1 hg HB GE166; replace HB := zS1 HB GE166 hb; have NB166_167 := zn hg BK166; replace BK166 := zB BK166 hb; have NB167_166 := jA NB166_167.out.symm; clear hb hbox hg; have hnb61 := NB166_167.out; have hnc61 := NB167_166.out; have hcz62 := zc6 BK166) | ((with_reducible refine jG (f := 91) rfl ?_); refine zL (some 63) Try.func91 #[.agg #[.bool a0_0, .bool a0_1, .bool a0_2, .bool a0_3, .bool a0_4, .int .i64 a0_5]] ?_; (with_reducible refine (spec_l21Off.calls a0_0 a0_1 a0_2 a0_3 a0_4 a0_5 t180 t181 t182 t183 t184 t185 _ A58.out).mono ?_); rintro e w63 ⟨rfl, hb⟩; refine ⟨_, rfl, ?_⟩; replace BK166 := zB BK166 hb; replace BK167 := zB BK167 hb; replace HB := zS2 HB GE166 GE167 hb; clear hb; have hcz64 := zc6 BK166; have hcz65 := zc6 BK167))
     refine jQ (results_ct rfl _ _ gb167 23 #[.bool t180, .bool t181, .bool t182, .bool t183, .bool t184, .int .i64 t185] (0, 0) _ rfl (zP1 BK167 NB167_166) Try.underlying23 rfl zr) rfl ?_
     exact ⟨ze, zb2 HB GE166 GE167⟩
    ·rw [if_neg c57] at H
     have c57b0 : (a1 == 3) = false := beq_eq_false_iff_ne.mpr c57
     have c57b1 : (a1 != 3) = true := bne_iff_ne.mpr c57
     by_cases c66 : a1 = 4
     ·rw [if_pos c66] at H
      have c66b0 : (a1 == 4) = true := beq_iff_eq.mpr c66
      have c66b1 : (a1 != 4) = false := bne_eq_false_iff_eq.mpr c66
      clear c66
      by_cases c67 : a0_2 = true
      ·subst c67
       rw [if_pos rfl] at H
       by_cases c68 : a0_3 = true
       ·subst c68
        rw [if_pos rfl] at H
        simp only [jH, jK] at H
        obtain ⟨rfl, rfl, rfl, rfl, rfl, rfl, rfl⟩ := H
        go_enter Try.func87, Try.ntmps87
        go_wp2_with (first | ((with_reducible refine jJ (N := 2) rfl ?_); refine zE 2 #[.bool a0_0, .bool a0_1, .bool true, .bool true, .bool a0_4, .int .i64 a0_5] 23 ?_; intro gb166 hg w69 hbox hb; have BK166 := jA (hbox); have GW166 := zg0 hg HB; have GE166 := zg0 hg HB; replace HB := zS0 HB hb; clear hb hbox hg) | ((with_reducible refine jJ (N := 4) rfl ?_); refine zE 4 #[.bool false, .bool false, .bool false, .bool false, .bool false, .int .i64 0] 23 ?_; intro gb167 hg w70 hbox hb; have BK167 := jA (hbox); have GW167 := zg1 hg HB GE166; have GE167 := zg1 hg HB GE166; replace HB := zS1 HB GE166 hb; have NB166_167 := zn hg BK166; replace BK166 := zB BK166 hb; have NB167_166 := jA NB166_167.out.symm; clear hb hbox hg; have hnb71 := NB166_167.out; have hnc71 := NB167_166.out; have hcz72 := zc6 BK166; have hcz73 := zc6 BK167))
        refine jQ (results_ct rfl _ _ gb167 23 #[.bool a0_0, .bool a0_1, .bool true, .bool true, .bool a0_4, .int .i64 a0_5] (0, 0) _ rfl (zP0 BK167) Try.underlying23 rfl zr) rfl ?_
        exact ⟨ze, zb2 HB GE166 GE167⟩
       ·replace c68 := Bool.eq_false_iff.mpr c68
        subst c68
        rw [if_neg zfalse] at H
        simp only [jH, jK] at H
        obtain ⟨rfl, rfl, rfl, rfl, rfl, rfl, rfl⟩ := H
        go_enter Try.func87, Try.ntmps87
        go_wp2_with (first | ((with_reducible refine jJ (N := 2) rfl ?_); refine zE 2 #[.bool a0_0, .bool a0_1, .bool true, .bool false, .bool a0_4, .int .i64 a0_5] 23 ?_; intro gb166 hg w74 hbox hb; have BK166 := jA (hbox); have GW166 := zg0 hg HB; have GE166 := zg0 hg HB; replace HB := zS0 HB hb; clear hb hbox hg) | ((with_reducible refine jJ (N := 4) rfl ?_); refine zE 4 #[.bool false, .bool false, .bool false, .bool false, .bool false, .int .i64 0] 23 ?_; intro gb167 hg w75 hbox hb; have BK167 := jA (hbox); have GW167 := zg1 hg HB GE166; have GE167 := zg1 hg HB GE166; replace HB := zS1 HB GE166 hb; have NB166_167 := zn hg BK166; replace BK166 := zB BK166 hb; have NB167_166 := jA NB166_167.out.symm; clear hb hbox hg; have hnb76 := NB166_167.out; have hnc76 := NB167_166.out; have hcz77 := zc6 BK166; have hcz78 := zc6 BK167))
        refine jQ (results_ct rfl _ _ gb167 23 #[.bool a0_0, .bool a0_1, .bool true, .bool true, .bool a0_4, .int .i64 a0_5] (0, 0) _ rfl (zP1 BK167 NB167_166) Try.underlying23 rfl zr) rfl ?_
        exact ⟨ze, zb2 HB GE166 GE167⟩
      ·replace c67 := Bool.eq_false_iff.mpr c67
       subst c67
       rw [if_neg zfalse] at H
       simp only [jH, jK] at H
       obtain ⟨rfl, rfl, rfl, rfl, rfl, rfl, rfl⟩ := H
       go_enter Try.func87, Try.ntmps87
       go_wp2_with (first | ((with_reducible refine jJ (N := 2) rfl ?_); refine zE 2 #[.bool a0_0, .bool a0_1, .bool false, .bool a0_3, .bool a0_4, .int .i64 a0_5] 23 ?_; intro gb166 hg w79 hbox hb; have BK166 := jA (hbox); have GW166 := zg0 hg HB; have GE166 := zg0 hg HB; replace HB := zS0 HB hb; clear hb hbox hg) | ((with_reducible refine jJ (N := 4) rfl ?_); refine zE 4 #[.bool false, .bool false, .bool false, .bool false, .bool false, .int .i64 0] 23 ?_; intro gb167 hg w80 hbox hb; have BK167 := jA (hbox); have GW167 := zg1 hg HB GE166; have GE167 := zg1 hg HB GE166; replace HB := zS1 HB GE166 hb; have NB166_167 := zn hg BK166; replace BK166 := zB BK166 hb; have NB167_166 := jA NB166_167.out.symm; clear hb hbox hg; have hnb81 := NB166_167.out; have hnc81 := NB167_166.out; have hcz82 := zc6 BK166; have hcz83 := zc6 BK167))
       refine jQ (results_ct rfl _ _ gb167 23 #[.bool a0_0, .bool a0_1, .bool false, .bool a0_3, .bool a0_4, .int .i64 a0_5] (0, 0) _ rfl (zP0 BK167) Try.underlying23 rfl zr) rfl ?_
       exact ⟨ze, zb2 HB GE166 GE167⟩
     ·rw [if_neg c66] at H
      have c66b0 : (a1 == 4) = false := beq_eq_false_iff_ne.mpr c66
      have c66b1 : (a1 != 4) = true := bne_iff_ne.mpr c66
      by_cases c84 : a1 = 5
      ·rw [if_pos c84] at H
       have c84b0 : (a1 == 5) = true := beq_iff_eq.mpr c84
       have c84b1 : (a1 != 5) = false := bne_eq_false_iff_eq.mpr c84
       clear c84
       by_cases c85 : a0_3 = true
       ·subst c85
        rw [if_pos rfl] at H
        simp only [jH, jK] at H
        obtain ⟨rfl, rfl, rfl, rfl, rfl, rfl, rfl⟩ := H
        go_enter Try.func87, Try.ntmps87
        go_wp2_with (first | ((with_reducible refine jJ (N := 2) rfl ?_); refine zE 2 #[.bool a0_0, .bool a0_1, .bool a0_2, .bool true, .bool a0_4, .int .i64 a0_5] 23 ?_; intro gb166 hg w86 hbox hb; have BK166 := jA (hbox); have GW166 := zg0 hg HB; have GE166 := zg0 hg HB; replace HB := zS0 HB hb; clear hb hbox hg) | ((with_reducible refine jJ (N := 4) rfl ?_); refine zE 4 #[.bool false, .bool false, .bool false, .bool false, .bool false, .int .i64 0] 23 ?_; intro gb167 hg w87 hbox hb; have BK167 := jA (hbox); have GW167 := zg1 hg HB GE166; have GE167 := zg1 hg HB GE166; replace HB := zS1 HB GE166 hb; have NB166_167 := zn hg BK166; replace BK166 := zB BK166 hb; have NB167_166 := jA NB166_167.out.symm; clear hb hbox hg; have hnb88 := NB166_167.out; have hnc88 := NB167_166.out; have hcz89 := zc6 BK166; have hcz90 := zc6 BK167))
        refine jQ (results_ct rfl _ _ gb167 23 #[.bool a0_0, .bool a0_1, .bool a0_2, .bool false, .bool a0_4, .int .i64 a0_5] (0, 0) _ rfl (zP1 BK167 NB167_166) Try.underlying23 rfl zr) rfl ?_
        exact ⟨ze, zb2 HB GE166 GE167⟩
       ·replace c85 := Bool.eq_false_iff.mpr c85
        subst c85
        rw [if_neg zfalse] at H
        simp only [jH, jK] at H
        obtain ⟨rfl, rfl, rfl, rfl, rfl, rfl, rfl⟩ := H
        go_enter Try.func87, Try.ntmps87
        go_wp2_with (first | ((with_reducible refine jJ (N := 2) rfl ?_); refine zE 2 #[.bool a0_0, .bool a0_1, .bool a0_2, .bool false, .bool a0_4, .int .i64 a0_5] 23 ?_; intro gb166 hg w91 hbox hb; have BK166 := jA (hbox); have GW166 := zg0 hg HB; have GE166 := zg0 hg HB; replace HB := zS0 HB hb; clear hb hbox hg) | ((with_reducible refine jJ (N := 4) rfl ?_); refine zE 4 #[.bool false, .bool false, .bool false, .bool false, .bool false, .int .i64 0] 23 ?_; intro gb167 hg w92 hbox hb; have BK167 := jA (hbox); have GW167 := zg1 hg HB GE166; have GE167 := zg1 hg HB GE166; replace HB := zS1 HB GE166 hb; have NB166_167 := zn hg BK166; replace BK166 := zB BK166 hb; have NB167_166 := jA NB166_167.out.symm; clear hb hbox hg; have hnb93 := NB166_167.out; have hnc93 := NB167_166.out; have hcz94 := zc6 BK166; have hcz95 := zc6 BK167))
        refine jQ (results_ct rfl _ _ gb167 23 #[.bool a0_0, .bool a0_1, .bool a0_2, .bool false, .bool a0_4, .int .i64 a0_5] (0, 0) _ rfl (zP0 BK167) Try.underlying23 rfl zr) rfl ?_
        exact ⟨ze, zb2 HB GE166 GE167⟩
      ·rw [if_neg c84] at H
       have c84b0 : (a1 == 5) = false := beq_eq_false_iff_ne.mpr c84
       have c84b1 : (a1 != 5) = true := bne_iff_ne.mpr c84
       by_cases c96 : a1 = 6
       ·rw [if_pos c96] at H
        have c96b0 : (a1 == 6) = true := beq_iff_eq.mpr c96
        have c96b1 : (a1 != 6) = false := bne_eq_false_iff_eq.mpr c96
        clear c96
        replace H := jC.mp H
        obtain ⟨⟨t186, t187, t188, t189, t190, t191⟩, A970, H⟩ := H
        try dsimp only at H
        have A97 := jA A970
        clear A970
        simp only [jH, jK] at H
        obtain ⟨rfl, rfl, rfl, rfl, rfl, rfl, rfl⟩ := H
        go_enter Try.func87, Try.ntmps87
        go_upto_region 31 with (first | ((with_reducible refine jJ (N := 2) rfl ?_); refine zE 2 #[.bool a0_0, .bool a0_1, .bool a0_2, .bool a0_3, .bool a0_4, .int .i64 a0_5] 23 ?_; intro gb166 hg w98 hbox hb; have BK166 := jA (hbox); have GW166 := zg0 hg HB; have GE166 := zg0 hg HB; replace HB := zS0 HB hb; clear hb hbox hg) | ((with_reducible refine jJ (N := 4) rfl ?_); refine zE 4 #[.bool false, .bool false, .bool false, .bool false, .bool false, .int .i64 0] 23 ?_; intro gb167 hg w99 hbox hb; have BK167 := jA (hbox); have GW167 := zg1 hg HB GE166; have GE167 := zg1 hg HB GE166; replace HB := zS1 HB GE166 hb; have NB166_167 := zn hg BK166; replace BK166 := zB BK166 hb; have NB167_166 := jA NB166_167.out.symm; clear hb hbox hg; have hnb100 := NB166_167.out; have hnc100 := NB167_166.out; have hcz101 := zc6 BK166) | ((with_reducible refine jG (f := 91) rfl ?_); refine zL (some 85) Try.func91 #[.agg #[.bool a0_0, .bool a0_1, .bool a0_2, .bool a0_3, .bool a0_4, .int .i64 a0_5]] ?_; (with_reducible refine (spec_l21Off.calls a0_0 a0_1 a0_2 a0_3 a0_4 a0_5 t186 t187 t188 t189 t190 t191 _ A97.out).mono ?_); rintro e w102 ⟨rfl, hb⟩; refine ⟨_, rfl, ?_⟩; replace BK166 := zB BK166 hb; replace BK167 := zB BK167 hb; replace HB := zS2 HB GE166 GE167 hb; clear hb; obtain ⟨hcz103_0, hcz103_1, hcz103_2, hcz103_3, hcz103_4, hcz103_5, hfz103_0, hfz103_1, hfz103_2, hfz103_3, hfz103_4, hfz103_5⟩ := zc6 BK166; obtain ⟨hcz104_0, hcz104_1, hcz104_2, hcz104_3, hcz104_4, hcz104_5, hfz104_0, hfz104_1, hfz104_2, hfz104_3, hfz104_4, hfz104_5⟩ := zc6 BK167))
        generalize hq_ : World.setCell _ ⟨gb166, 5, none⟩ (.int .i64 t191) = wq
        replace BK166 : Aside0 (wq.heap[gb166]? = some (.cells #[.bool t186, .bool t187, .bool t188, .bool t189, .bool t190, .int .i64 t191] 23 (0, 0))) := ⟨by rw [← hq_]; exact (blk_set (blk_set (blk_set (blk_set (blk_set (blk_set BK166.out 0 _) 1 _) 2 _) 3 _) 4 _) 5 _)⟩
        replace BK167 : Aside0 (wq.heap[gb167]? = some (.cells #[.bool false, .bool false, .bool false, .bool false, .bool false, .int .i64 0] 23 (0, 0))) := ⟨by rw [← hq_]; exact (blk_far (blk_far (blk_far (blk_far (blk_far (blk_far BK167.out NB167_166.out _) NB167_166.out _) NB167_166.out _) NB167_166.out _) NB167_166.out _) NB167_166.out _)⟩
        replace HB : Aside0 (Below w.heap.size w wq) := ⟨by rw [← hq_]; (repeat (first | (with_reducible first | exact HB.out | apply below_alloc | apply pw_below_drewN | apply below_drew1 | refine below_set ?_ GE166.out | refine below_set ?_ GE167.out) | exact HB.out))⟩
        clear hq_ hcz103_0 hcz103_1 hcz103_2 hcz103_3 hcz103_4 hcz103_5 hcz104_0 hcz104_1 hcz104_2 hcz104_3 hcz104_4 hcz104_5 hfz103_0 hfz103_1 hfz103_2 hfz103_3 hfz103_4 hfz103_5 hfz104_0 hfz104_1 hfz104_2 hfz104_3 hfz104_4 hfz104_5
        have hcqgb166_0 : wq.cell? ⟨gb166, 0, none⟩ = some (.bool t186) := (jL BK166.out 0).trans rfl
        have hcqgb166_1 : wq.cell? ⟨gb166, 1, none⟩ = some (.bool t187) := (jL BK166.out 1).trans rfl
        have hcqgb166_2 : wq.cell? ⟨gb166, 2, none⟩ = some (.bool t188) := (jL BK166.out 2).trans rfl
        have hcqgb166_3 : wq.cell? ⟨gb166, 3, none⟩ = some (.bool t189) := (jL BK166.out 3).trans rfl
        have hcqgb166_4 : wq.cell? ⟨gb166, 4, none⟩ = some (.bool t190) := (jL BK166.out 4).trans rfl
        have hcqgb166_5 : wq.cell? ⟨gb166, 5, none⟩ = some (.int .i64 t191) := (jL BK166.out 5).trans rfl
        have hfqgb166 := jW BK166.out
        have hcqgb167_0 : wq.cell? ⟨gb167, 0, none⟩ = some (.bool false) := (jL BK167.out 0).trans rfl
        have hcqgb167_1 : wq.cell? ⟨gb167, 1, none⟩ = some (.bool false) := (jL BK167.out 1).trans rfl
        have hcqgb167_2 : wq.cell? ⟨gb167, 2, none⟩ = some (.bool false) := (jL BK167.out 2).trans rfl
        have hcqgb167_3 : wq.cell? ⟨gb167, 3, none⟩ = some (.bool false) := (jL BK167.out 3).trans rfl
        have hcqgb167_4 : wq.cell? ⟨gb167, 4, none⟩ = some (.bool false) := (jL BK167.out 4).trans rfl
        have hcqgb167_5 : wq.cell? ⟨gb167, 5, none⟩ = some (.int .i64 0) := (jL BK167.out 5).trans rfl
        have hfqgb167 := jW BK167.out
        go_wp2_with (fail)
        refine jQ (results_ct rfl _ _ gb167 23 #[.bool t186, .bool t187, .bool t188, .bool t189, .bool true, .int .i64 t191] (0, 0) _ rfl (zP1 BK167 NB167_166) Try.underlying23 rfl zr) rfl ?_
        exact ⟨ze, zb2 HB GE166 GE167⟩
       ·rw [if_neg c96] at H
        have c96b0 : (a1 == 6) = false := beq_eq_false_iff_ne.mpr c96
        have c96b1 : (a1 != 6) = true := bne_iff_ne.mpr c96
        by_cases c105 : a1 = 7
        ·rw [if_pos c105] at H
         have c105b0 : (a1 == 7) = true := beq_iff_eq.mpr c105
         have c105b1 : (a1 != 7) = false := bne_eq_false_iff_eq.mpr c105
         clear c105
         simp only [jH, jK] at H
         obtain ⟨rfl, rfl, rfl, rfl, rfl, rfl, rfl⟩ := H
         go_enter Try.func87, Try.ntmps87
         go_wp2_with (first | ((with_reducible refine jJ (N := 2) rfl ?_); refine zE 2 #[.bool a0_0, .bool a0_1, .bool a0_2, .bool a0_3, .bool a0_4, .int .i64 a0_5] 23 ?_; intro gb166 hg w106 hbox hb; have BK166 := jA (hbox); have GW166 := zg0 hg HB; have GE166 := zg0 hg HB; replace HB := zS0 HB hb; clear hb hbox hg) | ((with_reducible refine jJ (N := 4) rfl ?_); refine zE 4 #[.bool false, .bool false, .bool false, .bool false, .bool false, .int .i64 0] 23 ?_; intro gb167 hg w107 hbox hb; have BK167 := jA (hbox); have GW167 := zg1 hg HB GE166; have GE167 := zg1 hg HB GE166; replace HB := zS1 HB GE166 hb; have NB166_167 := zn hg BK166; replace BK166 := zB BK166 hb; have NB167_166 := jA NB166_167.out.symm; clear hb hbox hg; have hnb108 := NB166_167.out; have hnc108 := NB167_166.out; have hcz109 := zc6 BK166; have hcz110 := zc6 BK167))
         refine jQ (results_ct rfl _ _ gb167 23 #[.bool a0_0, .bool a0_1, .bool a0_2, .bool a0_3, .bool a0_4, .int .i64 0] (0, 0) _ rfl (zP1 BK167 NB167_166) Try.underlying23 rfl zr) rfl ?_
         exact ⟨ze, zb2 HB GE166 GE167⟩
        ·rw [if_neg c105] at H
         have c105b0 : (a1 == 7) = false := beq_eq_false_iff_ne.mpr c105
         have c105b1 : (a1 != 7) = true := bne_iff_ne.mpr c105
         by_cases c111 : a1 = 8
         ·rw [if_pos c111] at H
          have c111b0 : (a1 == 8) = true := beq_iff_eq.mpr c111
          have c111b1 : (a1 != 8) = false := bne_eq_false_iff_eq.mpr c111
          clear c111
          obtain ⟨ji112, hji112⟩ : ∃ j_ : Int, (mn 4 (wrap64 (a0_5 + 1))) = j_ := ⟨_, rfl⟩
          replace H : (if (ji112) > 3 then ((spec_l21Off.f a0_0 a0_1 a0_2 a0_3 a0_4 (ji112)).bind fun bt192 => (some (bt192.1, bt192.2.1, bt192.2.2.1, bt192.2.2.2.1, bt192.2.2.2.2.1, bt192.2.2.2.2.2, true))) else (some (a0_0, a0_1, a0_2, a0_3, a0_4, ji112, true))) = some (r1, r2, r3, r4, r5, r6, r7) := by first | (rw [hji112] at H; exact H) | (simp only [hji112] at H ⊢; exact H)
          (try (have hji112h : ji112 ≤ 4 := by (rw [← hji112]; unfold mn; (repeat' split) <;> omega)))
          (try (have hji112g : ji112 ≤ 64 := by omega))
          have hji112_ : (if (wrap64 (a0_5 + 1)) < 4 then (wrap64 (a0_5 + 1)) else 4) = ji112 := hji112
          by_cases c113 : (ji112) > 3
          ·rw [if_pos c113] at H
           have c113b0 : decide (3 < (ji112)) = true := jI c113
           clear c113
           replace H := jC.mp H
           obtain ⟨⟨t192, t193, t194, t195, t196, t197⟩, A1140, H⟩ := H
           try dsimp only at H
           have A114 := jA A1140
           clear A1140
           simp only [jH, jK] at H
           obtain ⟨rfl, rfl, rfl, rfl, rfl, rfl, rfl⟩ := H
           go_enter Try.func87, Try.ntmps87
           go_wp2_with (first | ((with_reducible refine jJ (N := 2) rfl ?_); refine zE 2 #[.bool a0_0, .bool a0_1, .bool a0_2, .bool a0_3, .bool a0_4, .int .i64 a0_5] 23 ?_; intro gb166 hg w115 hbox hb; have BK166 := jA (hbox); have GW166 := zg0 hg HB; have GE166 := zg0 hg HB; replace HB := zS0 HB hb; clear hb hbox hg) | ((with_reducible refine jJ (N := 4) rfl ?_); refine zE 4 #[.bool false, .bool false, .bool false, .bool false, .bool false, .int .i64 0] 23 ?_; intro gb167 hg w116 hbox hb; have BK167 := jA (hbox); have GW167 := zg1 hg HB GE166; have GE167 := zg1 hg HB GE166; replace HB := zS1 HB GE166 hb; have NB166_167 := zn hg BK166; replace BK166 := zB BK166 hb; have NB167_166 := jA NB166_167.out.symm; clear hb hbox hg; have hnb117 := NB166_167.out; have hnc117 := NB167_166.out; have hcz118 := zc6 BK166) | ((with_reducible refine jG (f := 91) rfl ?_); refine goesL_ (some 101) rfl rfl Try.func91 zr rfl #[.agg #[.bool a0_0, .bool a0_1, .bool a0_2, .bool a0_3, .bool a0_4, .int .i64 ji112]] rfl (by (try simp only [List.map_toArray, List.map_cons, List.map_nil]); first | done | (simp only [hji112]; rfl) | rfl | (simp only [List.length_drop, List.length_take]; rfl)) ?_; (with_reducible refine (spec_l21Off.calls a0_0 a0_1 a0_2 a0_3 a0_4 ji112 t192 t193 t194 t195 t196 t197 _ A114.out).mono ?_); rintro e w119 ⟨rfl, hb⟩; refine ⟨_, rfl, ?_⟩; replace BK166 := jA (jU (g := gb166) (o := .cells #[.bool a0_0, .bool a0_1, .bool a0_2, .bool a0_3, .bool a0_4, .int .i64 ji112] 23 (0, 0)) (zP0 BK166) hb); replace BK167 := jA (jU (g := gb167) (o := .cells #[.bool false, .bool false, .bool false, .bool false, .bool false, .int .i64 0] 23 (0, 0)) (zQ1 BK167 NB167_166) hb); replace HB := zS2 HB GE166 GE167 hb; clear hb; have hcz120 := zc6 BK166; have hcz121 := zc6 BK167))
           refine jQ (results_ct rfl _ _ gb167 23 #[.bool t192, .bool t193, .bool t194, .bool t195, .bool t196, .int .i64 t197] (0, 0) _ rfl (zP1 BK167 NB167_166) Try.underlying23 rfl zr) rfl ?_
           exact ⟨by first | rfl | (simp [errW_none, errW_some] <;> rfl) | (simp only [← hji112]; first | rfl | (simp [errW_none, errW_some] <;> rfl)) | (simp [*, errW_none, errW_some] <;> rfl), zb2 HB GE166 GE167⟩
          ·rw [if_neg c113] at H
           have c113b0 : decide (3 < (ji112)) = false := jS c113
           clear c113
           simp only [jH, jK] at H
           obtain ⟨rfl, rfl, rfl, rfl, rfl, rfl, rfl⟩ := H
           go_enter Try.func87, Try.ntmps87
           go_wp2_with (first | ((with_reducible refine jJ (N := 2) rfl ?_); refine zE 2 #[.bool a0_0, .bool a0_1, .bool a0_2, .bool a0_3, .bool a0_4, .int .i64 a0_5] 23 ?_; intro gb166 hg w122 hbox hb; have BK166 := jA (hbox); have GW166 := zg0 hg HB; have GE166 := zg0 hg HB; replace HB := zS0 HB hb; clear hb hbox hg) | ((with_reducible refine jJ (N := 4) rfl ?_); refine zE 4 #[.bool false, .bool false, .bool false, .bool false, .bool false, .int .i64 0] 23 ?_; intro gb167 hg w123 hbox hb; have BK167 := jA (hbox); have GW167 := zg1 hg HB GE166; have GE167 := zg1 hg HB GE166; replace HB := zS1 HB GE166 hb; have NB166_167 := zn hg BK166; replace BK166 := zB BK166 hb; have NB167_166 := jA NB166_167.out.symm; clear hb hbox hg; have hnb124 := NB166_167.out; have hnc124 := NB167_166.out; have hcz125 := zc6 BK166; have hcz126 := zc6 BK167))
           refine jQ (results_ct rfl _ _ gb167 23 #[.bool a0_0, .bool a0_1, .bool a0_2, .bool a0_3, .bool a0_4, .int .i64 ji112] (0, 0) _ rfl (zP1 BK167 NB167_166) Try.underlying23 rfl zr) rfl ?_
           exact ⟨by first | rfl | (simp [errW_none, errW_some] <;> rfl) | (simp only [← hji112]; first | rfl | (simp [errW_none, errW_some] <;> rfl)) | (simp [*, errW_none, errW_some] <;> rfl), zb2 HB GE166 GE167⟩
         ·rw [if_neg c111] at H
          have c111b0 : (a1 == 8) = false := beq_eq_false_iff_ne.mpr c111
          have c111b1 : (a1 != 8) = true := bne_iff_ne.mpr c111
          by_cases c127 : a0_4 = true
          ·subst c127
           rw [if_pos rfl] at H
           by_cases c128 : a0_0 = true
           ·subst c128
            rw [if_pos rfl] at H
            simp only [jH, jK] at H
            obtain ⟨rfl, rfl, rfl, rfl, rfl, rfl, rfl⟩ := H
            go_enter Try.func87, Try.ntmps87
            go_wp2_with (first | ((with_reducible refine jJ (N := 2) rfl ?_); refine zE 2 #[.bool true, .bool a0_1, .bool a0_2, .bool a0_3, .bool true, .int .i64 a0_5] 23 ?_; intro gb166 hg w129 hbox hb; have BK166 := jA (hbox); have GW166 := zg0 hg HB; have GE166 := zg0 hg HB; replace HB := zS0 HB hb; clear hb hbox hg) | ((with_reducible refine jJ (N := 4) rfl ?_); refine zE 4 #[.bool false, .bool false, .bool false, .bool false, .bool false, .int .i64 0] 23 ?_; intro gb167 hg w130 hbox hb; have BK167 := jA (hbox); have GW167 := zg1 hg HB GE166; have GE167 := zg1 hg HB GE166; replace HB := zS1 HB GE166 hb; have NB166_167 := zn hg BK166; replace BK166 := zB BK166 hb; have NB167_166 := jA NB166_167.out.symm; clear hb hbox hg; have hnb131 := NB166_167.out; have hnc131 := NB167_166.out; have hcz132 := zc6 BK166; have hcz133 := zc6 BK167))
            refine jQ (results_ct rfl _ _ gb167 23 #[.bool true, .bool a0_1, .bool a0_2, .bool a0_3, .bool true, .int .i64 a0_5] (0, 0) _ rfl (zP0 BK167) Try.underlying23 rfl zr) rfl ?_
            exact ⟨ze, zb2 HB GE166 GE167⟩
           ·replace c128 := Bool.eq_false_iff.mpr c128
            subst c128
            rw [if_neg zfalse] at H
            by_cases c134 : a0_1 = true
            ·subst c134
             rw [if_pos rfl] at H
             simp only [jH, jK] at H
             obtain ⟨rfl, rfl, rfl, rfl, rfl, rfl, rfl⟩ := H
             go_enter Try.func87, Try.ntmps87
             go_wp2_with (first | ((with_reducible refine jJ (N := 2) rfl ?_); refine zE 2 #[.bool false, .bool true, .bool a0_2, .bool a0_3, .bool true, .int .i64 a0_5] 23 ?_; intro gb166 hg w135 hbox hb; have BK166 := jA (hbox); have GW166 := zg0 hg HB; have GE166 := zg0 hg HB; replace HB := zS0 HB hb; clear hb hbox hg) | ((with_reducible refine jJ (N := 4) rfl ?_); refine zE 4 #[.bool false, .bool false, .bool false, .bool false, .bool false, .int .i64 0] 23 ?_; intro gb167 hg w136 hbox hb; have BK167 := jA (hbox); have GW167 := zg1 hg HB GE166; have GE167 := zg1 hg HB GE166; replace HB := zS1 HB GE166 hb; have NB166_167 := zn hg BK166; replace BK166 := zB BK166 hb; have NB167_166 := jA NB166_167.out.symm; clear hb hbox hg; have hnb137 := NB166_167.out; have hnc137 := NB167_166.out; have hcz138 := zc6 BK166; have hcz139 := zc6 BK167))
             refine jQ (results_ct rfl _ _ gb167 23 #[.bool false, .bool true, .bool a0_2, .bool a0_3, .bool true, .int .i64 a0_5] (0, 0) _ rfl (zP0 BK167) Try.underlying23 rfl zr) rfl ?_
             exact ⟨ze, zb2 HB GE166 GE167⟩
            ·replace c134 := Bool.eq_false_iff.mpr c134
             subst c134
             rw [if_neg zfalse] at H
             simp only [jH, jK] at H
             obtain ⟨rfl, rfl, rfl, rfl, rfl, rfl, rfl⟩ := H
             go_enter Try.func87, Try.ntmps87
             go_wp2_with (first | ((with_reducible refine jJ (N := 2) rfl ?_); refine zE 2 #[.bool false, .bool false, .bool a0_2, .bool a0_3, .bool true, .int .i64 a0_5] 23 ?_; intro gb166 hg w140 hbox hb; have BK166 := jA (hbox); have GW166 := zg0 hg HB; have GE166 := zg0 hg HB; replace HB := zS0 HB hb; clear hb hbox hg) | ((with_reducible refine jJ (N := 4) rfl ?_); refine zE 4 #[.bool false, .bool false, .bool false, .bool false, .bool false, .int .i64 0] 23 ?_; intro gb167 hg w141 hbox hb; have BK167 := jA (hbox); have GW167 := zg1 hg HB GE166; have GE167 := zg1 hg HB GE166; replace HB := zS1 HB GE166 hb; have NB166_167 := zn hg BK166; replace BK166 := zB BK166 hb; have NB167_166 := jA NB166_167.out.symm; clear hb hbox hg; have hnb142 := NB166_167.out; have hnc142 := NB167_166.out; have hcz143 := zc6 BK166; have hcz144 := zc6 BK167))
             refine jQ (results_ct rfl _ _ gb167 23 #[.bool false, .bool false, .bool a0_2, .bool a0_3, .bool false, .int .i64 a0_5] (0, 0) _ rfl (zP1 BK167 NB167_166) Try.underlying23 rfl zr) rfl ?_
             exact ⟨ze, zb2 HB GE166 GE167⟩
          ·replace c127 := Bool.eq_false_iff.mpr c127
           subst c127
           rw [if_neg zfalse] at H
           simp only [jH, jK] at H
           obtain ⟨rfl, rfl, rfl, rfl, rfl, rfl, rfl⟩ := H
           go_enter Try.func87, Try.ntmps87
           go_wp2_with (first | ((with_reducible refine jJ (N := 2) rfl ?_); refine zE 2 #[.bool a0_0, .bool a0_1, .bool a0_2, .bool a0_3, .bool false, .int .i64 a0_5] 23 ?_; intro gb166 hg w145 hbox hb; have BK166 := jA (hbox); have GW166 := zg0 hg HB; have GE166 := zg0 hg HB; replace HB := zS0 HB hb; clear hb hbox hg) | ((with_reducible refine jJ (N := 4) rfl ?_); refine zE 4 #[.bool false, .bool false, .bool false, .bool false, .bool false, .int .i64 0] 23 ?_; intro gb167 hg w146 hbox hb; have BK167 := jA (hbox); have GW167 := zg1 hg HB GE166; have GE167 := zg1 hg HB GE166; replace HB := zS1 HB GE166 hb; have NB166_167 := zn hg BK166; replace BK166 := zB BK166 hb; have NB167_166 := jA NB166_167.out.symm; clear hb hbox hg; have hnb147 := NB166_167.out; have hnc147 := NB167_166.out; have hcz148 := zc6 BK166; have hcz149 := zc6 BK167))
           refine jQ (results_ct rfl _ _ gb167 23 #[.bool a0_0, .bool a0_1, .bool a0_2, .bool a0_3, .bool false, .int .i64 a0_5] (0, 0) _ rfl (zP0 BK167) Try.underlying23 rfl zr) rfl ?_
           exact ⟨ze, zb2 HB GE166 GE167⟩

end Go.Proofs.Ythieppjmjgijfaa.PFnProofs
