/- Functions and contracts that FnExactAreClosed reaches (5 of 10). -/
import Derived.Test.YthieppjmjgijfaaQFnExactAreClosedx3
namespace Go.Proofs.Ythieppjmjgijfaa.PFnExactAreClosed
open Go.RowKit Go.Proofs.YthieppjmjgijfaaW.PrintWords Go.Proofs.YthieppjmjgijfaaW.PrintLast Go.Proofs.YthieppjmjgijfaaW.PrintMore
attribute [local go_sem] max2_int min2_int max_two min_two max_three min_three max_four min_four   -- for this text's walks alone
set_option linter.unusedVariables false
set_option linter.unusedSimpArgs false
open Go.Proofs.YthieppjmjgijfaaX

/-! ### spec_IsSound: function 51 -/
def spec_IsSound.f (a0_0 : Bool) (a0_1 : Bool) (a0_2 : Bool) (a0_3 : Bool) (a0_4 : Bool) (a0_5 : Int) : Option (Bool) := if a0_2 = true then (if a0_0 = true then (if a0_1 = true then (if a0_4 = true then (some false) else (if a0_5 > 3 then (some false) else ((spec_l01In.f a0_5 0 4).bind fun t190 => (if t190 = true then (some true) else (some false))))) else (some false)) else (some false)) else ((spec_l01In.f a0_5 0 4).bind fun t191 => (if t191 = true then (some (!a0_3)) else (some false)))
set_option maxHeartbeats 8000000 in
set_option maxRecDepth 100000 in
theorem spec_IsSound.calls (a0_0 : Bool) (a0_1 : Bool) (a0_2 : Bool) (a0_3 : Bool) (a0_4 : Bool) (a0_5 : Int) (r : Bool) (w : World) (h : spec_IsSound.f a0_0 a0_1 a0_2 a0_3 a0_4 a0_5 = some r) :
  Calls Try.prog 51 #[.agg #[.bool a0_0, .bool a0_1, .bool a0_2, .bool a0_3, .bool a0_4, .int .i64 a0_5]] w fun e w' => e = .returned (.bool r) ∧ Below w.heap.size w w' := by
 have hu23 := Try.underlying23
 have HB := jA (Below.refl w.heap.size w)
 have H : (if a0_2 = true then (if a0_0 = true then (if a0_1 = true then (if a0_4 = true then (some false) else (if a0_5 > 3 then (some false) else ((spec_l01In.f a0_5 0 4).bind fun t190 => (if t190 = true then (some true) else (some false))))) else (some false)) else (some false)) else ((spec_l01In.f a0_5 0 4).bind fun t191 => (if t191 = true then (some (!a0_3)) else (some false)))) = some r := h
 clear h
 by_cases c2 : a0_2 = true
 ·subst c2
  have H1 : (if a0_0 = true then (if a0_1 = true then (if a0_4 = true then (some false) else (if a0_5 > 3 then (some false) else ((spec_l01In.f a0_5 0 4).bind fun t190 => (if t190 = true then (some true) else (some false))))) else (some false)) else (some false)) = some r := by rw [if_pos rfl] at H; exact H
  clear H
  have H := H1
  clear H1
  by_cases c3 : a0_0 = true
  ·subst c3
   have H1 : (if a0_1 = true then (if a0_4 = true then (some false) else (if a0_5 > 3 then (some false) else ((spec_l01In.f a0_5 0 4).bind fun t190 => (if t190 = true then (some true) else (some false))))) else (some false)) = some r := by rw [if_pos rfl] at H; exact H
   clear H
   have H := H1
   clear H1
   by_cases c4 : a0_1 = true
   ·subst c4
    have H1 : (if a0_4 = true then (some false) else (if a0_5 > 3 then (some false) else ((spec_l01In.f a0_5 0 4).bind fun t190 => (if t190 = true then (some true) else (some false))))) = some r := by rw [if_pos rfl] at H; exact H
    clear H
    have H := H1
    clear H1
    by_cases c5 : a0_4 = true
    ·subst c5
     have H1 : (some false) = some r := by rw [if_pos rfl] at H; exact H
     clear H
     have H := H1
     clear H1
     obtain rfl := jR H
     go_enter Try.func51, Try.ntmps51
     go_wp2_with (first | ((with_reducible refine jO (N := 1) rfl ?_); refine jM ?hg (N := 1) ?hd (cs := #[.bool true, .bool true, .bool true, .bool a0_3, .bool true, .int .i64 a0_5]) (t := 23) ?hr ?_; (case hd => rfl); (case hg => rfl); (case hr => first | (go_simp; done) | (go_simp; rfl)); intro gb189 hg w6 hbox hb; have n0_ := jA (jK (zb0 HB) hb); have n1_ := jA (hbox); have n2_ := jA ((by rw [hg]; exact (jG (zb0 HB)) : w.heap.size ≤ gb189)); have n3_ := jA ((by rw [hg]; exact (jG (zb0 HB)) : w.heap.size ≤ gb189)); clear HB; have HB := n0_; have BK189 := n1_; have GW189 := n2_; have GE189 := n3_; clear n0_ n1_ n2_ n3_; clear hb hbox hg; have hcz7_0 : w6.cell? ⟨gb189, 0, none⟩ = some (.bool true) := (jC BK189.out 0).trans rfl; have hcz7_1 : w6.cell? ⟨gb189, 1, none⟩ = some (.bool true) := (jC BK189.out 1).trans rfl; have hcz7_2 : w6.cell? ⟨gb189, 2, none⟩ = some (.bool true) := (jC BK189.out 2).trans rfl; have hcz7_3 : w6.cell? ⟨gb189, 3, none⟩ = some (.bool a0_3) := (jC BK189.out 3).trans rfl; have hcz7_4 : w6.cell? ⟨gb189, 4, none⟩ = some (.bool true) := (jC BK189.out 4).trans rfl; have hcz7_5 : w6.cell? ⟨gb189, 5, none⟩ = some (.int .i64 a0_5) := (jC BK189.out 5).trans rfl; have hfz7_0 := jB BK189.out 0; have hfz7_1 := jB BK189.out 1; have hfz7_2 := jB BK189.out 2; have hfz7_3 := jB BK189.out 3; have hfz7_4 := jB BK189.out 4; have hfz7_5 := jB BK189.out 5))
     go_ret
     exact ⟨by first | rfl | (simp [errW_none, errW_some] <;> rfl) | (simp [*, errW_none, errW_some] <;> rfl), zb1 HB GE189⟩
    ·replace c5 := Bool.eq_false_iff.mpr c5
     subst c5
     have H1 : (if a0_5 > 3 then (some false) else ((spec_l01In.f a0_5 0 4).bind fun t190 => (if t190 = true then (some true) else (some false)))) = some r := by rw [if_neg (show ¬ (false = true) by decide)] at H; exact H
     clear H
     have H := H1
     clear H1
     by_cases c8 : a0_5 > 3
     ·rw [if_pos c8] at H
      have c8b0 : decide (3 < a0_5) = true := jP c8
      clear c8
      obtain rfl := jR H
      go_enter Try.func51, Try.ntmps51
      go_wp2_with (first | ((with_reducible refine jO (N := 1) rfl ?_); refine jM ?hg (N := 1) ?hd (cs := #[.bool true, .bool true, .bool true, .bool a0_3, .bool false, .int .i64 a0_5]) (t := 23) ?hr ?_; (case hd => rfl); (case hg => rfl); (case hr => first | (go_simp; done) | (go_simp; rfl)); intro gb189 hg w9 hbox hb; have n0_ := jA (jK (zb0 HB) hb); have n1_ := jA (hbox); have n2_ := jA ((by rw [hg]; exact (jG (zb0 HB)) : w.heap.size ≤ gb189)); have n3_ := jA ((by rw [hg]; exact (jG (zb0 HB)) : w.heap.size ≤ gb189)); clear HB; have HB := n0_; have BK189 := n1_; have GW189 := n2_; have GE189 := n3_; clear n0_ n1_ n2_ n3_; clear hb hbox hg; have hcz10_0 : w9.cell? ⟨gb189, 0, none⟩ = some (.bool true) := (jC BK189.out 0).trans rfl; have hcz10_1 : w9.cell? ⟨gb189, 1, none⟩ = some (.bool true) := (jC BK189.out 1).trans rfl; have hcz10_2 : w9.cell? ⟨gb189, 2, none⟩ = some (.bool true) := (jC BK189.out 2).trans rfl; have hcz10_3 : w9.cell? ⟨gb189, 3, none⟩ = some (.bool a0_3) := (jC BK189.out 3).trans rfl; have hcz10_4 : w9.cell? ⟨gb189, 4, none⟩ = some (.bool false) := (jC BK189.out 4).trans rfl; have hcz10_5 : w9.cell? ⟨gb189, 5, none⟩ = some (.int .i64 a0_5) := (jC BK189.out 5).trans rfl; have hfz10_0 := jB BK189.out 0; have hfz10_1 := jB BK189.out 1; have hfz10_2 := jB BK189.out 2; have hfz10_3 := jB BK189.out 3; have hfz10_4 := jB BK189.out 4; have hfz10_5 := jB BK189.out 5))
      go_ret
      exact ⟨by first | rfl | (simp [errW_none, errW_some] <;> rfl) | (simp [*, errW_none, errW_some] <;> rfl), zb1 HB GE189⟩
     ·rw [if_neg c8] at H
      have c8b0 : decide (3 < a0_5) = false := jd c8
      clear c8
      replace H := jN.mp H
      obtain ⟨t190, A110, H⟩ := H
      replace H : (if t190 = true then (some true) else (some false)) = some r := H
      have A11 := jA A110
      clear A110
      by_cases c12 : t190 = true
      ·subst c12
       have H1 : (some true) = some r := by rw [if_pos rfl] at H; exact H
       clear H
       have H := H1
       clear H1
       obtain rfl := jR H
       go_enter Try.func51, Try.ntmps51
       go_wp2_with (first | ((with_reducible refine jO (N := 1) rfl ?_); refine jM ?hg (N := 1) ?hd (cs := #[.bool true, .bool true, .bool true, .bool a0_3, .bool false, .int .i64 a0_5]) (t := 23) ?hr ?_; (case hd => rfl); (case hg => rfl); (case hr => first | (go_simp; done) | (go_simp; rfl)); intro gb189 hg w13 hbox hb; have n0_ := jA (jK (zb0 HB) hb); have n1_ := jA (hbox); have n2_ := jA ((by rw [hg]; exact (jG (zb0 HB)) : w.heap.size ≤ gb189)); have n3_ := jA ((by rw [hg]; exact (jG (zb0 HB)) : w.heap.size ≤ gb189)); clear HB; have HB := n0_; have BK189 := n1_; have GW189 := n2_; have GE189 := n3_; clear n0_ n1_ n2_ n3_; clear hb hbox hg; have hcz14_0 : w13.cell? ⟨gb189, 0, none⟩ = some (.bool true) := (jC BK189.out 0).trans rfl; have hcz14_1 : w13.cell? ⟨gb189, 1, none⟩ = some (.bool true) := (jC BK189.out 1).trans rfl; have hcz14_2 : w13.cell? ⟨gb189, 2, none⟩ = some (.bool true) := (jC BK189.out 2).trans rfl; have hcz14_3 : w13.cell? ⟨gb189, 3, none⟩ = some (.bool a0_3) := (jC BK189.out 3).trans rfl; have hcz14_4 : w13.cell? ⟨gb189, 4, none⟩ = some (.bool false) := (jC BK189.out 4).trans rfl; have hcz14_5 : w13.cell? ⟨gb189, 5, none⟩ = some (.int .i64 a0_5) := (jC BK189.out 5).trans rfl; have hfz14_0 := jB BK189.out 0; have hfz14_1 := jB BK189.out 1; have hfz14_2 := jB BK189.out 2; have hfz14_3 := jB BK189.out 3; have hfz14_4 := jB BK189.out 4; have hfz14_5 := jB BK189.out 5) | ((with_reducible refine jY (f := 78) rfl ?_); refine goesL_ (some 26) rfl rfl Try.func78 zr rfl #[.int .i64 a0_5, .int .i64 0, .int .i64 4] rfl zm ?_; (with_reducible refine (spec_l01In.calls a0_5 0 4 true _ A11.out).mono ?_); rintro e w' ⟨rfl, ⟨nd, rfl⟩⟩; refine ⟨_, rfl, ?_⟩))
       go_ret
       exact ⟨by first | rfl | (simp [errW_none, errW_some] <;> rfl) | (simp [*, errW_none, errW_some] <;> rfl), zb1 HB GE189⟩
      ·replace c12 := Bool.eq_false_iff.mpr c12
       subst c12
       have H1 : (some false) = some r := by rw [if_neg (show ¬ (false = true) by decide)] at H; exact H
       clear H
       have H := H1
       clear H1
       obtain rfl := jR H
       go_enter Try.func51, Try.ntmps51
       go_wp2_with (first | ((with_reducible refine jO (N := 1) rfl ?_); refine jM ?hg (N := 1) ?hd (cs := #[.bool true, .bool true, .bool true, .bool a0_3, .bool false, .int .i64 a0_5]) (t := 23) ?hr ?_; (case hd => rfl); (case hg => rfl); (case hr => first | (go_simp; done) | (go_simp; rfl)); intro gb189 hg w15 hbox hb; have n0_ := jA (jK (zb0 HB) hb); have n1_ := jA (hbox); have n2_ := jA ((by rw [hg]; exact (jG (zb0 HB)) : w.heap.size ≤ gb189)); have n3_ := jA ((by rw [hg]; exact (jG (zb0 HB)) : w.heap.size ≤ gb189)); clear HB; have HB := n0_; have BK189 := n1_; have GW189 := n2_; have GE189 := n3_; clear n0_ n1_ n2_ n3_; clear hb hbox hg; have hcz16_0 : w15.cell? ⟨gb189, 0, none⟩ = some (.bool true) := (jC BK189.out 0).trans rfl; have hcz16_1 : w15.cell? ⟨gb189, 1, none⟩ = some (.bool true) := (jC BK189.out 1).trans rfl; have hcz16_2 : w15.cell? ⟨gb189, 2, none⟩ = some (.bool true) := (jC BK189.out 2).trans rfl; have hcz16_3 : w15.cell? ⟨gb189, 3, none⟩ = some (.bool a0_3) := (jC BK189.out 3).trans rfl; have hcz16_4 : w15.cell? ⟨gb189, 4, none⟩ = some (.bool false) := (jC BK189.out 4).trans rfl; have hcz16_5 : w15.cell? ⟨gb189, 5, none⟩ = some (.int .i64 a0_5) := (jC BK189.out 5).trans rfl; have hfz16_0 := jB BK189.out 0; have hfz16_1 := jB BK189.out 1; have hfz16_2 := jB BK189.out 2; have hfz16_3 := jB BK189.out 3; have hfz16_4 := jB BK189.out 4; have hfz16_5 := jB BK189.out 5) | ((with_reducible refine jY (f := 78) rfl ?_); refine goesL_ (some 26) rfl rfl Try.func78 zr rfl #[.int .i64 a0_5, .int .i64 0, .int .i64 4] rfl zm ?_; (with_reducible refine (spec_l01In.calls a0_5 0 4 false _ A11.out).mono ?_); rintro e w' ⟨rfl, ⟨nd, rfl⟩⟩; refine ⟨_, rfl, ?_⟩))
       go_ret
       exact ⟨by first | rfl | (simp [errW_none, errW_some] <;> rfl) | (simp [*, errW_none, errW_some] <;> rfl), zb1 HB GE189⟩
   ·replace c4 := Bool.eq_false_iff.mpr c4
    subst c4
    have H1 : (some false) = some r := by rw [if_neg (show ¬ (false = true) by decide)] at H; exact H
    clear H
    have H := H1
    clear H1
    obtain rfl := jR H
    go_enter Try.func51, Try.ntmps51
    go_wp2_with (first | ((with_reducible refine jO (N := 1) rfl ?_); refine jM ?hg (N := 1) ?hd (cs := #[.bool true, .bool false, .bool true, .bool a0_3, .bool a0_4, .int .i64 a0_5]) (t := 23) ?hr ?_; (case hd => rfl); (case hg => rfl); (case hr => first | (go_simp; done) | (go_simp; rfl)); intro gb189 hg w17 hbox hb; have n0_ := jA (jK (zb0 HB) hb); have n1_ := jA (hbox); have n2_ := jA ((by rw [hg]; exact (jG (zb0 HB)) : w.heap.size ≤ gb189)); have n3_ := jA ((by rw [hg]; exact (jG (zb0 HB)) : w.heap.size ≤ gb189)); clear HB; have HB := n0_; have BK189 := n1_; have GW189 := n2_; have GE189 := n3_; clear n0_ n1_ n2_ n3_; clear hb hbox hg; have hcz18_0 : w17.cell? ⟨gb189, 0, none⟩ = some (.bool true) := (jC BK189.out 0).trans rfl; have hcz18_1 : w17.cell? ⟨gb189, 1, none⟩ = some (.bool false) := (jC BK189.out 1).trans rfl; have hcz18_2 : w17.cell? ⟨gb189, 2, none⟩ = some (.bool true) := (jC BK189.out 2).trans rfl; have hcz18_3 : w17.cell? ⟨gb189, 3, none⟩ = some (.bool a0_3) := (jC BK189.out 3).trans rfl; have hcz18_4 : w17.cell? ⟨gb189, 4, none⟩ = some (.bool a0_4) := (jC BK189.out 4).trans rfl; have hcz18_5 : w17.cell? ⟨gb189, 5, none⟩ = some (.int .i64 a0_5) := (jC BK189.out 5).trans rfl; have hfz18_0 := jB BK189.out 0; have hfz18_1 := jB BK189.out 1; have hfz18_2 := jB BK189.out 2; have hfz18_3 := jB BK189.out 3; have hfz18_4 := jB BK189.out 4; have hfz18_5 := jB BK189.out 5))
    go_ret
    exact ⟨by first | rfl | (simp [errW_none, errW_some] <;> rfl) | (simp [*, errW_none, errW_some] <;> rfl), zb1 HB GE189⟩
  ·replace c3 := Bool.eq_false_iff.mpr c3
   subst c3
   have H1 : (some false) = some r := by rw [if_neg (show ¬ (false = true) by decide)] at H; exact H
   clear H
   have H := H1
   clear H1
   obtain rfl := jR H
   go_enter Try.func51, Try.ntmps51
   go_wp2_with (first | ((with_reducible refine jO (N := 1) rfl ?_); refine jM ?hg (N := 1) ?hd (cs := #[.bool false, .bool a0_1, .bool true, .bool a0_3, .bool a0_4, .int .i64 a0_5]) (t := 23) ?hr ?_; (case hd => rfl); (case hg => rfl); (case hr => first | (go_simp; done) | (go_simp; rfl)); intro gb189 hg w19 hbox hb; have n0_ := jA (jK (zb0 HB) hb); have n1_ := jA (hbox); have n2_ := jA ((by rw [hg]; exact (jG (zb0 HB)) : w.heap.size ≤ gb189)); have n3_ := jA ((by rw [hg]; exact (jG (zb0 HB)) : w.heap.size ≤ gb189)); clear HB; have HB := n0_; have BK189 := n1_; have GW189 := n2_; have GE189 := n3_; clear n0_ n1_ n2_ n3_; clear hb hbox hg; have hcz20_0 : w19.cell? ⟨gb189, 0, none⟩ = some (.bool false) := (jC BK189.out 0).trans rfl; have hcz20_1 : w19.cell? ⟨gb189, 1, none⟩ = some (.bool a0_1) := (jC BK189.out 1).trans rfl; have hcz20_2 : w19.cell? ⟨gb189, 2, none⟩ = some (.bool true) := (jC BK189.out 2).trans rfl; have hcz20_3 : w19.cell? ⟨gb189, 3, none⟩ = some (.bool a0_3) := (jC BK189.out 3).trans rfl; have hcz20_4 : w19.cell? ⟨gb189, 4, none⟩ = some (.bool a0_4) := (jC BK189.out 4).trans rfl; have hcz20_5 : w19.cell? ⟨gb189, 5, none⟩ = some (.int .i64 a0_5) := (jC BK189.out 5).trans rfl; have hfz20_0 := jB BK189.out 0; have hfz20_1 := jB BK189.out 1; have hfz20_2 := jB BK189.out 2; have hfz20_3 := jB BK189.out 3; have hfz20_4 := jB BK189.out 4; have hfz20_5 := jB BK189.out 5))
   go_ret
   exact ⟨by first | rfl | (simp [errW_none, errW_some] <;> rfl) | (simp [*, errW_none, errW_some] <;> rfl), zb1 HB GE189⟩
 ·replace c2 := Bool.eq_false_iff.mpr c2
  subst c2
  have H1 : ((spec_l01In.f a0_5 0 4).bind fun t191 => (if t191 = true then (some (!a0_3)) else (some false))) = some r := by rw [if_neg (show ¬ (false = true) by decide)] at H; exact H
  clear H
  have H := H1
  clear H1
  replace H := jN.mp H
  obtain ⟨t191, A210, H⟩ := H
  replace H : (if t191 = true then (some (!a0_3)) else (some false)) = some r := H
  have A21 := jA A210
  clear A210
  by_cases c22 : t191 = true
  ·subst c22
   have H1 : (some (!a0_3)) = some r := by rw [if_pos rfl] at H; exact H
   clear H
   have H := H1
   clear H1
   obtain rfl := jR H
   go_enter Try.func51, Try.ntmps51
   go_wp2_with (first | ((with_reducible refine jO (N := 1) rfl ?_); refine jM ?hg (N := 1) ?hd (cs := #[.bool a0_0, .bool a0_1, .bool false, .bool a0_3, .bool a0_4, .int .i64 a0_5]) (t := 23) ?hr ?_; (case hd => rfl); (case hg => rfl); (case hr => first | (go_simp; done) | (go_simp; rfl)); intro gb189 hg w23 hbox hb; have n0_ := jA (jK (zb0 HB) hb); have n1_ := jA (hbox); have n2_ := jA ((by rw [hg]; exact (jG (zb0 HB)) : w.heap.size ≤ gb189)); have n3_ := jA ((by rw [hg]; exact (jG (zb0 HB)) : w.heap.size ≤ gb189)); clear HB; have HB := n0_; have BK189 := n1_; have GW189 := n2_; have GE189 := n3_; clear n0_ n1_ n2_ n3_; clear hb hbox hg; have hcz24_0 : w23.cell? ⟨gb189, 0, none⟩ = some (.bool a0_0) := (jC BK189.out 0).trans rfl; have hcz24_1 : w23.cell? ⟨gb189, 1, none⟩ = some (.bool a0_1) := (jC BK189.out 1).trans rfl; have hcz24_2 : w23.cell? ⟨gb189, 2, none⟩ = some (.bool false) := (jC BK189.out 2).trans rfl; have hcz24_3 : w23.cell? ⟨gb189, 3, none⟩ = some (.bool a0_3) := (jC BK189.out 3).trans rfl; have hcz24_4 : w23.cell? ⟨gb189, 4, none⟩ = some (.bool a0_4) := (jC BK189.out 4).trans rfl; have hcz24_5 : w23.cell? ⟨gb189, 5, none⟩ = some (.int .i64 a0_5) := (jC BK189.out 5).trans rfl; have hfz24_0 := jB BK189.out 0; have hfz24_1 := jB BK189.out 1; have hfz24_2 := jB BK189.out 2; have hfz24_3 := jB BK189.out 3; have hfz24_4 := jB BK189.out 4; have hfz24_5 := jB BK189.out 5) | ((with_reducible refine jY (f := 78) rfl ?_); refine goesL_ (some 26) rfl rfl Try.func78 zr rfl #[.int .i64 a0_5, .int .i64 0, .int .i64 4] rfl zm ?_; (with_reducible refine (spec_l01In.calls a0_5 0 4 true _ A21.out).mono ?_); rintro e w' ⟨rfl, ⟨nd, rfl⟩⟩; refine ⟨_, rfl, ?_⟩))
   go_ret
   exact ⟨by first | rfl | (simp [errW_none, errW_some] <;> rfl) | (simp [*, errW_none, errW_some] <;> rfl), zb1 HB GE189⟩
  ·replace c22 := Bool.eq_false_iff.mpr c22
   subst c22
   have H1 : (some false) = some r := by rw [if_neg (show ¬ (false = true) by decide)] at H; exact H
   clear H
   have H := H1
   clear H1
   obtain rfl := jR H
   go_enter Try.func51, Try.ntmps51
   go_wp2_with (first | ((with_reducible refine jO (N := 1) rfl ?_); refine jM ?hg (N := 1) ?hd (cs := #[.bool a0_0, .bool a0_1, .bool false, .bool a0_3, .bool a0_4, .int .i64 a0_5]) (t := 23) ?hr ?_; (case hd => rfl); (case hg => rfl); (case hr => first | (go_simp; done) | (go_simp; rfl)); intro gb189 hg w25 hbox hb; have n0_ := jA (jK (zb0 HB) hb); have n1_ := jA (hbox); have n2_ := jA ((by rw [hg]; exact (jG (zb0 HB)) : w.heap.size ≤ gb189)); have n3_ := jA ((by rw [hg]; exact (jG (zb0 HB)) : w.heap.size ≤ gb189)); clear HB; have HB := n0_; have BK189 := n1_; have GW189 := n2_; have GE189 := n3_; clear n0_ n1_ n2_ n3_; clear hb hbox hg; have hcz26_0 : w25.cell? ⟨gb189, 0, none⟩ = some (.bool a0_0) := (jC BK189.out 0).trans rfl; have hcz26_1 : w25.cell? ⟨gb189, 1, none⟩ = some (.bool a0_1) := (jC BK189.out 1).trans rfl; have hcz26_2 : w25.cell? ⟨gb189, 2, none⟩ = some (.bool false) := (jC BK189.out 2).trans rfl; have hcz26_3 : w25.cell? ⟨gb189, 3, none⟩ = some (.bool a0_3) := (jC BK189.out 3).trans rfl; have hcz26_4 : w25.cell? ⟨gb189, 4, none⟩ = some (.bool a0_4) := (jC BK189.out 4).trans rfl; have hcz26_5 : w25.cell? ⟨gb189, 5, none⟩ = some (.int .i64 a0_5) := (jC BK189.out 5).trans rfl; have hfz26_0 := jB BK189.out 0; have hfz26_1 := jB BK189.out 1; have hfz26_2 := jB BK189.out 2; have hfz26_3 := jB BK189.out 3; have hfz26_4 := jB BK189.out 4; have hfz26_5 := jB BK189.out 5) | ((with_reducible refine jY (f := 78) rfl ?_); refine goesL_ (some 26) rfl rfl Try.func78 zr rfl #[.int .i64 a0_5, .int .i64 0, .int .i64 4] rfl zm ?_; (with_reducible refine (spec_l01In.calls a0_5 0 4 false _ A21.out).mono ?_); rintro e w' ⟨rfl, ⟨nd, rfl⟩⟩; refine ⟨_, rfl, ?_⟩))
   go_ret
   exact ⟨by first | rfl | (simp [errW_none, errW_some] <;> rfl) | (simp [*, errW_none, errW_some] <;> rfl), zb1 HB GE189⟩

/-! ### spec_l25Is: function 47 -/
def spec_l25Is.f (a0 : Int) : Option (Bool) := (spec_l01In.f a0 0 159).bind fun t192 => (if t192 = true then ((spec_l25With.f a0).bind fun bt193 => ((spec_IsSound.f bt193.1 bt193.2.1 bt193.2.2.1 bt193.2.2.2.1 bt193.2.2.2.2.1 bt193.2.2.2.2.2).bind fun t199 => (some t199))) else (some false))
set_option maxHeartbeats 8000000 in
set_option maxRecDepth 100000 in
theorem spec_l25Is.calls (a0 : Int) (r : Bool) (w : World) (h : spec_l25Is.f a0 = some r) :
  Calls Try.prog 47 #[.int .i64 a0] w fun e w' => e = .returned (.bool r) ∧ Below w.heap.size w w' := by
 have HB := jA (Below.refl w.heap.size w)
 have H : ((spec_l01In.f a0 0 159).bind fun t192 => (if t192 = true then ((spec_l25With.f a0).bind fun bt193 => ((spec_IsSound.f bt193.1 bt193.2.1 bt193.2.2.1 bt193.2.2.2.1 bt193.2.2.2.2.1 bt193.2.2.2.2.2).bind fun t199 => (some t199))) else (some false))) = some r := h
 clear h
 replace H := jN.mp H
 obtain ⟨t192, A20, H⟩ := H
 replace H : (if t192 = true then ((spec_l25With.f a0).bind fun bt193 => ((spec_IsSound.f bt193.1 bt193.2.1 bt193.2.2.1 bt193.2.2.2.1 bt193.2.2.2.2.1 bt193.2.2.2.2.2).bind fun t199 => (some t199))) else (some false)) = some r := H
 have A2 := jA A20
 clear A20
 by_cases c3 : t192 = true
 ·subst c3
  have H1 : ((spec_l25With.f a0).bind fun bt193 => ((spec_IsSound.f bt193.1 bt193.2.1 bt193.2.2.1 bt193.2.2.2.1 bt193.2.2.2.2.1 bt193.2.2.2.2.2).bind fun t199 => (some t199))) = some r := by rw [if_pos rfl] at H; exact H
  clear H
  have H := H1
  clear H1
  replace H := jN.mp H
  obtain ⟨⟨t193, t194, t195, t196, t197, t198⟩, A40, H⟩ := H
  replace H : ((spec_IsSound.f t193 t194 t195 t196 t197 t198).bind fun t199 => (some t199)) = some r := H
  have A4 := jA A40
  clear A40
  replace H := jN.mp H
  obtain ⟨t199, A50, H⟩ := H
  replace H : (some t199) = some r := H
  have A5 := jA A50
  clear A50
  obtain rfl := jR H
  go_enter Try.func47, Try.ntmps47
  go_wp2_with (first | ((with_reducible refine jY (f := 78) rfl ?_); refine goesL_ (some 4) rfl rfl Try.func78 zr rfl #[.int .i64 a0, .int .i64 0, .int .i64 159] rfl zm ?_; (with_reducible refine (spec_l01In.calls a0 0 159 true _ A2.out).mono ?_); rintro e w' ⟨rfl, ⟨nd, rfl⟩⟩; refine ⟨_, rfl, ?_⟩) | (go_at_call 48; (with_reducible refine (spec_l25With.calls a0 t193 t194 t195 t196 t197 t198 _ A4.out).mono ?_); rintro e w6 ⟨rfl, hb⟩; have n0_ := jA (jK (zb0 HB) hb); clear HB; have HB := n0_; clear n0_; (try clear hb); (try clear hb2); (try clear hk); (try clear hi)) | (go_at_call 51; (with_reducible refine (spec_IsSound.calls t193 t194 t195 t196 t197 t198 t199 _ A5.out).mono ?_); rintro e w7 ⟨rfl, hb⟩; have n0_ := jA (jK (zb0 HB) hb); clear HB; have HB := n0_; clear n0_; (try clear hb); (try clear hb2); (try clear hk); (try clear hi)))
  go_ret
  exact ⟨by first | rfl | (simp [errW_none, errW_some] <;> rfl) | (simp [*, errW_none, errW_some] <;> rfl), zb0 HB⟩
 ·replace c3 := Bool.eq_false_iff.mpr c3
  subst c3
  have H1 : (some false) = some r := by rw [if_neg (show ¬ (false = true) by decide)] at H; exact H
  clear H
  have H := H1
  clear H1
  obtain rfl := jR H
  go_enter Try.func47, Try.ntmps47
  go_wp2_with (first | ((with_reducible refine jY (f := 78) rfl ?_); refine goesL_ (some 4) rfl rfl Try.func78 zr rfl #[.int .i64 a0, .int .i64 0, .int .i64 159] rfl zm ?_; (with_reducible refine (spec_l01In.calls a0 0 159 false _ A2.out).mono ?_); rintro e w' ⟨rfl, ⟨nd, rfl⟩⟩; refine ⟨_, rfl, ?_⟩))
  go_ret
  exact ⟨by first | rfl | (simp [errW_none, errW_some] <;> rfl) | (simp [*, errW_none, errW_some] <;> rfl), zb0 HB⟩

/-! ### spec_l01Rises: function 86 -/
def spec_l01Rises.l0 : Nat → List Int → Int → Int → Option (Bool)
 | 0, _, _, _ => none
 | k + 1, x0, x1, x5 => if x5 < (x0.length : Int) then (if 0 ≤ x5 then ((spec_l01In.f (rd x0 x5) 0 (wrap64 (x1 - 1))).bind fun t201 => (if t201 = true then (if x5 > 0 then (if 0 ≤ (wrap64 (x5 - 1)) then (if (wrap64 (x5 - 1)) < (x0.length : Int) then (if (rd x0 x5) ≤ (rd x0 (wrap64 (x5 - 1))) then (some false) else (spec_l01Rises.l0 k x0 x1 (wrap64 (x5 + 1)))) else (none)) else (none)) else (spec_l01Rises.l0 k x0 x1 (wrap64 (x5 + 1)))) else (some false))) else (none)) else (some true)
def spec_l01Rises.f (k : Nat) (l0 : List Int) (a1 : Int) : Option (Bool) := spec_l01Rises.l0 k l0 a1 0
theorem spec_l01Rises.mono_l : ∀ k, (∀ y0 y1 y2, LeO (spec_l01Rises.l0 k y0 y1 y2) (spec_l01Rises.l0 (k + 1) y0 y1 y2))
 | 0 => fun _ _ _ r h => by simp [spec_l01Rises.l0] at h
 | k + 1 => by
  have ih0 := spec_l01Rises.mono_l k
  ·intro y0 y1 y2
   unfold spec_l01Rises.l0
   repeat' first
   | (with_reducible exact ih0 _ _ _)
   | (with_reducible exact LeO.refl _)
   | (with_reducible exact LeO.none _)
   | (with_reducible refine LeO.ite ?_ ?_)
   | (with_reducible refine LeO.bind ?_ (fun _ => ?_))
   | exact ih0 _ _ _
   | exact LeO.none _
   | refine LeO.ite ?_ ?_
   | refine LeO.bind ?_ (fun _ => ?_)
theorem spec_l01Rises.mono : ∀ a0 a1 k, LeO (spec_l01Rises.f k a0 a1) (spec_l01Rises.f (k + 1) a0 a1) := by
 intro a0 a1 k
 have ih0 := spec_l01Rises.mono_l k
 unfold spec_l01Rises.f
 repeat' first
   | (with_reducible exact ih0 _ _ _)
   | (with_reducible exact LeO.refl _)
   | (with_reducible exact LeO.none _)
   | (with_reducible refine LeO.ite ?_ ?_)
   | (with_reducible refine LeO.bind ?_ (fun _ => ?_))
   | exact ih0 _ _ _
   | exact LeO.none _
   | refine LeO.ite ?_ ?_
   | refine LeO.bind ?_ (fun _ => ?_)
set_option maxHeartbeats 8000000 in
set_option maxRecDepth 100000 in
theorem spec_l01Rises.calls (k : Nat) (A0 : Option Addr) (c0 : Nat) (l0 : List Int) (a1 : Int) (r : Bool) (w : World) (hr0 : Kd.C (Kd.int .i64) w A0 l0.length l0) (hc0 : l0.length ≤ c0) (h : spec_l01Rises.f k l0 a1 = some r) :
  Calls Try.prog 86 #[.slice A0 l0.length c0, .int .i64 a1] w fun e w' => e = .returned (.bool r) ∧ Drawn0 w w' := by
 have HR0 := jA hr0
 have HC0 := jA hc0
 clear hr0 hc0
 have H : (spec_l01Rises.l0 k l0 a1 0) = some r := h
 clear h
 have H' := jA H
 clear H
 go_enter Try.func86, Try.ntmps86
 go_wp2
 repeat (go_quiet (fail); try go_wp2)
 go_loopg [5] k (fun kq v5 w' => ∃ (x5_1 : Int), v5 = .int .i64 x5_1 ∧ Aside0 (spec_l01Rises.l0 kq l0 a1 x5_1 = some r) ∧ Aside0 (kq ≤ k) ∧ Drawn0 w w')
 case atStart => exact ⟨(0), zz, H', ⟨Nat.le_refl _⟩, by repeat (first | exact Drawn0.refl _ | apply Drawn0.step)⟩
 case round =>
  clear H'
  try clear p2
  obtain ⟨x5_1, rfl, HA, HK1, ⟨m1, rfl⟩⟩ := hrel
  cases gk with
  | zero => exact absurd HA.out (by simp [spec_l01Rises.l0])
  | succ k1 =>
   have H := HA.out
   clear HA
   simp only [spec_l01Rises.l0] at H
   by_cases c3 : x5_1 < (l0.length : Int)
   ·rw [if_pos c3] at H
    have c3b0 : decide (x5_1 < (l0.length : Int)) = true := jP c3
    clear c3
    by_cases c4 : 0 ≤ x5_1
    ·rw [if_pos c4] at H
     have c4b0 : decide (0 ≤ x5_1) = true := jP c4
     clear c4
     replace H := jN.mp H
     obtain ⟨t201, A50, H⟩ := H
     replace H : (if t201 = true then (if x5_1 > 0 then (if 0 ≤ (wrap64 (x5_1 - 1)) then (if (wrap64 (x5_1 - 1)) < (l0.length : Int) then (if (rd l0 x5_1) ≤ (rd l0 (wrap64 (x5_1 - 1))) then (some false) else (spec_l01Rises.l0 k1 l0 a1 (wrap64 (x5_1 + 1)))) else (none)) else (none)) else (spec_l01Rises.l0 k1 l0 a1 (wrap64 (x5_1 + 1)))) else (some false)) = some r := H
     have A5 := jA A50
     clear A50
     by_cases c6 : t201 = true
     ·subst c6
      have H1 : (if x5_1 > 0 then (if 0 ≤ (wrap64 (x5_1 - 1)) then (if (wrap64 (x5_1 - 1)) < (l0.length : Int) then (if (rd l0 x5_1) ≤ (rd l0 (wrap64 (x5_1 - 1))) then (some false) else (spec_l01Rises.l0 k1 l0 a1 (wrap64 (x5_1 + 1)))) else (none)) else (none)) else (spec_l01Rises.l0 k1 l0 a1 (wrap64 (x5_1 + 1)))) = some r := by rw [if_pos rfl] at H; exact H
      clear H
      have H := H1
      clear H1
      by_cases c7 : x5_1 > 0
      ·rw [if_pos c7] at H
       have c7b0 : decide (0 < x5_1) = true := jP c7
       clear c7
       obtain ⟨ji8, hji8⟩ : ∃ j_ : Int, (wrap64 (x5_1 - 1)) = j_ := ⟨_, rfl⟩
       replace H : (if 0 ≤ (ji8) then (if (ji8) < (l0.length : Int) then (if (rd l0 x5_1) ≤ (rd l0 (ji8)) then (some false) else (spec_l01Rises.l0 k1 l0 a1 (wrap64 (x5_1 + 1)))) else (none)) else (none)) = some r := by first | (rw [hji8] at H; exact H) | (simp only [hji8] at H ⊢; exact H)
       (try rw [hji8] at A5)
       have hji8w : (IntKind.i64.wrap (x5_1 - 1)) = ji8 := (i64_w _).trans hji8
       by_cases c9 : 0 ≤ (ji8)
       ·rw [if_pos c9] at H
        have c9b0 : decide (0 ≤ (ji8)) = true := jP c9
        clear c9
        by_cases c10 : (ji8) < (l0.length : Int)
        ·rw [if_pos c10] at H
         have c10b0 : decide ((ji8) < (l0.length : Int)) = true := jP c10
         clear c10
         by_cases c11 : (rd l0 x5_1) ≤ (rd l0 (ji8))
         ·rw [if_pos c11] at H
          have c11b0 : decide ((rd l0 x5_1) ≤ (rd l0 (ji8))) = true := jP c11
          clear c11
          obtain rfl := jR H
          have p200 : 0 ≤ (x5_1 : Int) := jI za
          have q200 : x5_1 < (l0.length : Int) := jI za
          obtain ⟨ad200, e200, hx200_0⟩ := jc HR0.out x5_1 p200 q200
          cases e200
          replace p200 := eq_true p200
          replace q200 := eq_true q200
          have p2009 : 0 ≤ (ji8 : Int) := jI za
          have q2009 : ji8 < (l0.length : Int) := jI za
          obtain ⟨ad2009, e2009, hx2009_0⟩ := jc HR0.out ji8 p2009 q2009
          obtain rfl : ad200 = ad2009 := (by injection e2009)
          replace p2009 := eq_true p2009
          replace q2009 := eq_true q2009
          go_wp2_with (first | (go_at_call 78; (with_reducible refine (spec_l01In.calls (rd l0 x5_1) 0 (wrap64 (a1 - 1)) true _ A5.out).mono ?_); rintro e w' ⟨rfl, ⟨nd, rfl⟩⟩; (first | exact ⟨rfl, _, World.drewN_drewN _ _ _⟩ | exact ⟨rfl, _, Eq.trans (World.drewN_drewN _ _ _) (congrArg (World.drewN _) (Nat.add_assoc _ _ _))⟩ | (have p202 : 0 ≤ (x5_1 : Int) := jI za; have q202 : x5_1 < (l0.length : Int) := jI za; obtain ⟨ad202, e202, hx202_0⟩ := jc HR0.out x5_1 p202 q202; obtain rfl : ad200 = ad202 := (by injection e202); replace p202 := eq_true p202; replace q202 := eq_true q202; have p203 : 0 ≤ ((ji8) : Int) := jI za; have q203 : (ji8) < (l0.length : Int) := jI za; obtain ⟨ad203, e203, hx203_0⟩ := jc HR0.out (ji8) p203 q203; obtain rfl : ad200 = ad203 := (by injection e203); replace p203 := eq_true p203; replace q203 := eq_true q203))))
          repeat (go_quiet (first | (go_at_call 78; (with_reducible refine (spec_l01In.calls (rd l0 x5_1) 0 (wrap64 (a1 - 1)) true _ A5.out).mono ?_); rintro e w' ⟨rfl, ⟨nd, rfl⟩⟩; (first | exact ⟨rfl, _, World.drewN_drewN _ _ _⟩ | exact ⟨rfl, _, Eq.trans (World.drewN_drewN _ _ _) (congrArg (World.drewN _) (Nat.add_assoc _ _ _))⟩ | (have p202 : 0 ≤ (x5_1 : Int) := jI za; have q202 : x5_1 < (l0.length : Int) := jI za; obtain ⟨ad202, e202, hx202_0⟩ := jc HR0.out x5_1 p202 q202; obtain rfl : ad200 = ad202 := (by injection e202); replace p202 := eq_true p202; replace q202 := eq_true q202; have p203 : 0 ≤ ((ji8) : Int) := jI za; have q203 : (ji8) < (l0.length : Int) := jI za; obtain ⟨ad203, e203, hx203_0⟩ := jc HR0.out (ji8) p203 q203; obtain rfl : ad200 = ad203 := (by injection e203); replace p203 := eq_true p203; replace q203 := eq_true q203)))); try go_wp2_with (first | (go_at_call 78; (with_reducible refine (spec_l01In.calls (rd l0 x5_1) 0 (wrap64 (a1 - 1)) true _ A5.out).mono ?_); rintro e w' ⟨rfl, ⟨nd, rfl⟩⟩; (first | exact ⟨rfl, _, World.drewN_drewN _ _ _⟩ | exact ⟨rfl, _, Eq.trans (World.drewN_drewN _ _ _) (congrArg (World.drewN _) (Nat.add_assoc _ _ _))⟩ | (have p202 : 0 ≤ (x5_1 : Int) := jI za; have q202 : x5_1 < (l0.length : Int) := jI za; obtain ⟨ad202, e202, hx202_0⟩ := jc HR0.out x5_1 p202 q202; obtain rfl : ad200 = ad202 := (by injection e202); replace p202 := eq_true p202; replace q202 := eq_true q202; have p203 : 0 ≤ ((ji8) : Int) := jI za; have q203 : (ji8) < (l0.length : Int) := jI za; obtain ⟨ad203, e203, hx203_0⟩ := jc HR0.out (ji8) p203 q203; obtain rfl : ad200 = ad203 := (by injection e203); replace p203 := eq_true p203; replace q203 := eq_true q203)))))
          go_ret
          exact ⟨by first | rfl | (simp; done) | (simp only [← hji8] <;> (first | rfl | simp)) | (simp [*]; done), by repeat (first | exact Drawn0.refl _ | apply Drawn0.step)⟩
         ·rw [if_neg c11] at H
          have c11b0 : decide ((rd l0 x5_1) ≤ (rd l0 (ji8))) = false := jd c11
          clear c11
          have H' := jA H
          clear H
          have p200 : 0 ≤ (x5_1 : Int) := jI za
          have q200 : x5_1 < (l0.length : Int) := jI za
          obtain ⟨ad200, e200, hx200_0⟩ := jc HR0.out x5_1 p200 q200
          cases e200
          replace p200 := eq_true p200
          replace q200 := eq_true q200
          have p2009 : 0 ≤ (ji8 : Int) := jI za
          have q2009 : ji8 < (l0.length : Int) := jI za
          obtain ⟨ad2009, e2009, hx2009_0⟩ := jc HR0.out ji8 p2009 q2009
          obtain rfl : ad200 = ad2009 := (by injection e2009)
          replace p2009 := eq_true p2009
          replace q2009 := eq_true q2009
          go_wp2_with (first | (go_at_call 78; (with_reducible refine (spec_l01In.calls (rd l0 x5_1) 0 (wrap64 (a1 - 1)) true _ A5.out).mono ?_); rintro e w' ⟨rfl, ⟨nd, rfl⟩⟩; (first | exact ⟨rfl, _, World.drewN_drewN _ _ _⟩ | exact ⟨rfl, _, Eq.trans (World.drewN_drewN _ _ _) (congrArg (World.drewN _) (Nat.add_assoc _ _ _))⟩ | (have p202 : 0 ≤ (x5_1 : Int) := jI za; have q202 : x5_1 < (l0.length : Int) := jI za; obtain ⟨ad202, e202, hx202_0⟩ := jc HR0.out x5_1 p202 q202; obtain rfl : ad200 = ad202 := (by injection e202); replace p202 := eq_true p202; replace q202 := eq_true q202; have p203 : 0 ≤ ((ji8) : Int) := jI za; have q203 : (ji8) < (l0.length : Int) := jI za; obtain ⟨ad203, e203, hx203_0⟩ := jc HR0.out (ji8) p203 q203; obtain rfl : ad200 = ad203 := (by injection e203); replace p203 := eq_true p203; replace q203 := eq_true q203))))
          repeat (go_quiet (first | (go_at_call 78; (with_reducible refine (spec_l01In.calls (rd l0 x5_1) 0 (wrap64 (a1 - 1)) true _ A5.out).mono ?_); rintro e w' ⟨rfl, ⟨nd, rfl⟩⟩; (first | exact ⟨rfl, _, World.drewN_drewN _ _ _⟩ | exact ⟨rfl, _, Eq.trans (World.drewN_drewN _ _ _) (congrArg (World.drewN _) (Nat.add_assoc _ _ _))⟩ | (have p202 : 0 ≤ (x5_1 : Int) := jI za; have q202 : x5_1 < (l0.length : Int) := jI za; obtain ⟨ad202, e202, hx202_0⟩ := jc HR0.out x5_1 p202 q202; obtain rfl : ad200 = ad202 := (by injection e202); replace p202 := eq_true p202; replace q202 := eq_true q202; have p203 : 0 ≤ ((ji8) : Int) := jI za; have q203 : (ji8) < (l0.length : Int) := jI za; obtain ⟨ad203, e203, hx203_0⟩ := jc HR0.out (ji8) p203 q203; obtain rfl : ad200 = ad203 := (by injection e203); replace p203 := eq_true p203; replace q203 := eq_true q203)))); try go_wp2_with (first | (go_at_call 78; (with_reducible refine (spec_l01In.calls (rd l0 x5_1) 0 (wrap64 (a1 - 1)) true _ A5.out).mono ?_); rintro e w' ⟨rfl, ⟨nd, rfl⟩⟩; (first | exact ⟨rfl, _, World.drewN_drewN _ _ _⟩ | exact ⟨rfl, _, Eq.trans (World.drewN_drewN _ _ _) (congrArg (World.drewN _) (Nat.add_assoc _ _ _))⟩ | (have p202 : 0 ≤ (x5_1 : Int) := jI za; have q202 : x5_1 < (l0.length : Int) := jI za; obtain ⟨ad202, e202, hx202_0⟩ := jc HR0.out x5_1 p202 q202; obtain rfl : ad200 = ad202 := (by injection e202); replace p202 := eq_true p202; replace q202 := eq_true q202; have p203 : 0 ≤ ((ji8) : Int) := jI za; have q203 : (ji8) < (l0.length : Int) := jI za; obtain ⟨ad203, e203, hx203_0⟩ := jc HR0.out (ji8) p203 q203; obtain rfl : ad200 = ad203 := (by injection e203); replace p203 := eq_true p203; replace q203 := eq_true q203)))))
          go_roundg k1
          case measure => have := HK1.out; omega
          case rel => exact ⟨(wrap64 (x5_1 + 1)), zz, H', ⟨by have := HK1.out; omega⟩, by repeat (first | exact Drawn0.refl _ | apply Drawn0.step)⟩
        ·rw [if_neg c10] at H
         exact absurd H (by simp)
       ·rw [if_neg c9] at H
        exact absurd H (by simp)
      ·rw [if_neg c7] at H
       have c7b0 : decide (0 < x5_1) = false := jd c7
       clear c7
       have H' := jA H
       clear H
       have p200 : 0 ≤ (x5_1 : Int) := jI za
       have q200 : x5_1 < (l0.length : Int) := jI za
       obtain ⟨ad200, e200, hx200_0⟩ := jc HR0.out x5_1 p200 q200
       cases e200
       replace p200 := eq_true p200
       replace q200 := eq_true q200
       go_wp2_with (first | (go_at_call 78; (with_reducible refine (spec_l01In.calls (rd l0 x5_1) 0 (wrap64 (a1 - 1)) true _ A5.out).mono ?_); rintro e w' ⟨rfl, ⟨nd, rfl⟩⟩; (try first | exact ⟨rfl, _, World.drewN_drewN _ _ _⟩ | exact ⟨rfl, _, Eq.trans (World.drewN_drewN _ _ _) (congrArg (World.drewN _) (Nat.add_assoc _ _ _))⟩)))
       repeat (go_quiet (first | (go_at_call 78; (with_reducible refine (spec_l01In.calls (rd l0 x5_1) 0 (wrap64 (a1 - 1)) true _ A5.out).mono ?_); rintro e w' ⟨rfl, ⟨nd, rfl⟩⟩; (try first | exact ⟨rfl, _, World.drewN_drewN _ _ _⟩ | exact ⟨rfl, _, Eq.trans (World.drewN_drewN _ _ _) (congrArg (World.drewN _) (Nat.add_assoc _ _ _))⟩))); try go_wp2_with (first | (go_at_call 78; (with_reducible refine (spec_l01In.calls (rd l0 x5_1) 0 (wrap64 (a1 - 1)) true _ A5.out).mono ?_); rintro e w' ⟨rfl, ⟨nd, rfl⟩⟩; (try first | exact ⟨rfl, _, World.drewN_drewN _ _ _⟩ | exact ⟨rfl, _, Eq.trans (World.drewN_drewN _ _ _) (congrArg (World.drewN _) (Nat.add_assoc _ _ _))⟩))))
       go_roundg k1
       case measure => have := HK1.out; omega
       case rel => exact ⟨(wrap64 (x5_1 + 1)), zz, H', ⟨by have := HK1.out; omega⟩, by repeat (first | exact Drawn0.refl _ | apply Drawn0.step)⟩
     ·replace c6 := Bool.eq_false_iff.mpr c6
      subst c6
      have H1 : (some false) = some r := by rw [if_neg (show ¬ (false = true) by decide)] at H; exact H
      clear H
      have H := H1
      clear H1
      obtain rfl := jR H
      have p200 : 0 ≤ (x5_1 : Int) := jI za
      have q200 : x5_1 < (l0.length : Int) := jI za
      obtain ⟨ad200, e200, hx200_0⟩ := jc HR0.out x5_1 p200 q200
      cases e200
      replace p200 := eq_true p200
      replace q200 := eq_true q200
      go_wp2_with (first | (go_at_call 78; (with_reducible refine (spec_l01In.calls (rd l0 x5_1) 0 (wrap64 (a1 - 1)) false _ A5.out).mono ?_); rintro e w' ⟨rfl, ⟨nd, rfl⟩⟩; (try first | exact ⟨rfl, _, World.drewN_drewN _ _ _⟩ | exact ⟨rfl, _, Eq.trans (World.drewN_drewN _ _ _) (congrArg (World.drewN _) (Nat.add_assoc _ _ _))⟩)))
      repeat (go_quiet (first | (go_at_call 78; (with_reducible refine (spec_l01In.calls (rd l0 x5_1) 0 (wrap64 (a1 - 1)) false _ A5.out).mono ?_); rintro e w' ⟨rfl, ⟨nd, rfl⟩⟩; (try first | exact ⟨rfl, _, World.drewN_drewN _ _ _⟩ | exact ⟨rfl, _, Eq.trans (World.drewN_drewN _ _ _) (congrArg (World.drewN _) (Nat.add_assoc _ _ _))⟩))); try go_wp2_with (first | (go_at_call 78; (with_reducible refine (spec_l01In.calls (rd l0 x5_1) 0 (wrap64 (a1 - 1)) false _ A5.out).mono ?_); rintro e w' ⟨rfl, ⟨nd, rfl⟩⟩; (try first | exact ⟨rfl, _, World.drewN_drewN _ _ _⟩ | exact ⟨rfl, _, Eq.trans (World.drewN_drewN _ _ _) (congrArg (World.drewN _) (Nat.add_assoc _ _ _))⟩))))
      go_ret
      exact ⟨by first | rfl | (simp; done) | (simp [*]; done), by repeat (first | exact Drawn0.refl _ | apply Drawn0.step)⟩
    ·rw [if_neg c4] at H
     exact absurd H (by simp)
   ·rw [if_neg c3] at H
    have c3b0 : decide (x5_1 < (l0.length : Int)) = false := jd c3
    clear c3
    obtain rfl := jR H
    go_wp2
    repeat (go_quiet (fail); try go_wp2)
    go_ret
    exact ⟨by first | rfl | (simp; done) | (simp [*]; done), by repeat (first | exact Drawn0.refl _ | apply Drawn0.step)⟩

/-! ### spec_l25Code: function 70 -/
def spec_l25Code.f (k : Nat) (a0_0 : Bool) (a0_1 : Bool) (a0_2 : Bool) (a0_3 : Bool) (a0_4 : Bool) (a0_5 : Int) (l1 : List Int) : Option (Int) := (spec_IsSound.f a0_0 a0_1 a0_2 a0_3 a0_4 a0_5).bind fun t205 => (if t205 = true then ((spec_l01Rises.f k l1 10).bind fun t206 => (if t206 = true then (some 0) else (some 1))) else (some 1))
theorem spec_l25Code.mono : ∀ a0 a1 a2 a3 a4 a5 a6 k, LeO (spec_l25Code.f k a0 a1 a2 a3 a4 a5 a6) (spec_l25Code.f (k + 1) a0 a1 a2 a3 a4 a5 a6) := by
 intro a0 a1 a2 a3 a4 a5 a6 k
 unfold spec_l25Code.f
 repeat' first
   | (with_reducible exact spec_l01Rises.mono _ _ _)
   | (with_reducible exact LeO.refl _)
   | (with_reducible exact LeO.none _)
   | (with_reducible refine LeO.ite ?_ ?_)
   | (with_reducible refine LeO.bind ?_ (fun _ => ?_))
   | exact spec_l01Rises.mono _ _ _
   | exact LeO.none _
   | refine LeO.ite ?_ ?_
   | refine LeO.bind ?_ (fun _ => ?_)
set_option maxHeartbeats 8000000 in
set_option maxRecDepth 100000 in
theorem spec_l25Code.calls (k : Nat) (a0_0 : Bool) (a0_1 : Bool) (a0_2 : Bool) (a0_3 : Bool) (a0_4 : Bool) (a0_5 : Int) (A1 : Option Addr) (c1 : Nat) (l1 : List Int) (r : Int) (w : World) (hr1 : Kd.C (Kd.int .i64) w A1 l1.length l1) (hc1 : l1.length ≤ c1) (h : spec_l25Code.f k a0_0 a0_1 a0_2 a0_3 a0_4 a0_5 l1 = some r) :
  Calls Try.prog 70 #[.agg #[.bool a0_0, .bool a0_1, .bool a0_2, .bool a0_3, .bool a0_4, .int .i64 a0_5], .slice A1 l1.length c1] w fun e w' => e = .returned (.int .i64 r) ∧ Below w.heap.size w w' := by
 have hu23 := Try.underlying23
 have HR1 := jA hr1
 have HC1 := jA hc1
 clear hr1 hc1
 have HB := jA (Below.refl w.heap.size w)
 have H : ((spec_IsSound.f a0_0 a0_1 a0_2 a0_3 a0_4 a0_5).bind fun t205 => (if t205 = true then ((spec_l01Rises.f k l1 10).bind fun t206 => (if t206 = true then (some 0) else (some 1))) else (some 1))) = some r := h
 clear h
 replace H := jN.mp H
 obtain ⟨t205, A30, H⟩ := H
 replace H : (if t205 = true then ((spec_l01Rises.f k l1 10).bind fun t206 => (if t206 = true then (some 0) else (some 1))) else (some 1)) = some r := H
 have A3 := jA A30
 clear A30
 by_cases c4 : t205 = true
 ·subst c4
  have H1 : ((spec_l01Rises.f k l1 10).bind fun t206 => (if t206 = true then (some 0) else (some 1))) = some r := by rw [if_pos rfl] at H; exact H
  clear H
  have H := H1
  clear H1
  replace H := jN.mp H
  obtain ⟨t206, A50, H⟩ := H
  replace H : (if t206 = true then (some 0) else (some 1)) = some r := H
  have A5 := jA A50
  clear A50
  by_cases c6 : t206 = true
  ·subst c6
   have H1 : (some 0) = some r := by rw [if_pos rfl] at H; exact H
   clear H
   have H := H1
   clear H1
   obtain rfl := jR H
   go_enter Try.func70, Try.ntmps70
   go_wp2_with (first | ((with_reducible refine jO (N := 2) rfl ?_); refine jM ?hg (N := 2) ?hd (cs := #[.bool a0_0, .bool a0_1, .bool a0_2, .bool a0_3, .bool a0_4, .int .i64 a0_5]) (t := 23) ?hr ?_; (case hd => rfl); (case hg => rfl); (case hr => first | (go_simp; done) | (go_simp; rfl)); intro gb204 hg w7 hbox hb; have n0_ := jA (jK (zb0 HB) hb); have n1_ := jA (hbox); have n2_ := jA ((by rw [hg]; exact (jG (zb0 HB)) : w.heap.size ≤ gb204)); have n3_ := jA ((by rw [hg]; exact (jG (zb0 HB)) : w.heap.size ≤ gb204)); clear HB; have HB := n0_; have BK204 := n1_; have GW204 := n2_; have GE204 := n3_; clear n0_ n1_ n2_ n3_; clear hb hbox hg; have hcz8_0 : w7.cell? ⟨gb204, 0, none⟩ = some (.bool a0_0) := (jC BK204.out 0).trans rfl; have hcz8_1 : w7.cell? ⟨gb204, 1, none⟩ = some (.bool a0_1) := (jC BK204.out 1).trans rfl; have hcz8_2 : w7.cell? ⟨gb204, 2, none⟩ = some (.bool a0_2) := (jC BK204.out 2).trans rfl; have hcz8_3 : w7.cell? ⟨gb204, 3, none⟩ = some (.bool a0_3) := (jC BK204.out 3).trans rfl; have hcz8_4 : w7.cell? ⟨gb204, 4, none⟩ = some (.bool a0_4) := (jC BK204.out 4).trans rfl; have hcz8_5 : w7.cell? ⟨gb204, 5, none⟩ = some (.int .i64 a0_5) := (jC BK204.out 5).trans rfl; have hfz8_0 := jB BK204.out 0; have hfz8_1 := jB BK204.out 1; have hfz8_2 := jB BK204.out 2; have hfz8_3 := jB BK204.out 3; have hfz8_4 := jB BK204.out 4; have hfz8_5 := jB BK204.out 5) | ((with_reducible refine jY (f := 51) rfl ?_); refine goesL_ (some 6) rfl rfl Try.func51 zr rfl #[.agg #[.bool a0_0, .bool a0_1, .bool a0_2, .bool a0_3, .bool a0_4, .int .i64 a0_5]] rfl zm ?_; (with_reducible refine (spec_IsSound.calls a0_0 a0_1 a0_2 a0_3 a0_4 a0_5 true _ A3.out).mono ?_); rintro e w9 ⟨rfl, hb⟩; refine ⟨_, rfl, ?_⟩; have n0_ := jA (jU (g := gb204) (o := .cells #[.bool a0_0, .bool a0_1, .bool a0_2, .bool a0_3, .bool a0_4, .int .i64 a0_5] 23 (0, 0)) (zk BK204) hb); have n1_ := jA (jK (zb1 HB GE204) hb); clear BK204; clear HB; have BK204 := n0_; have HB := n1_; clear n0_ n1_; (try clear hb); (try clear hb2); (try clear hk); (try clear hi)) | (go_at_call 86; (with_reducible refine (spec_l01Rises.calls k _ _ l1 10 true _ ?side1 ?side2 A5.out).mono ?_); (case side1 => exact zs HR1 HB); (case side2 => exact HC1.out); rintro e w' ⟨rfl, ⟨nd, rfl⟩⟩))
   go_ret
   exact ⟨by first | rfl | (simp [errW_none, errW_some] <;> rfl) | (simp [*, errW_none, errW_some] <;> rfl), zb1 HB GE204⟩
  ·replace c6 := Bool.eq_false_iff.mpr c6
   subst c6
   have H1 : (some 1) = some r := by rw [if_neg (show ¬ (false = true) by decide)] at H; exact H
   clear H
   have H := H1
   clear H1
   obtain rfl := jR H
   go_enter Try.func70, Try.ntmps70
   go_wp2_with (first | ((with_reducible refine jO (N := 2) rfl ?_); refine jM ?hg (N := 2) ?hd (cs := #[.bool a0_0, .bool a0_1, .bool a0_2, .bool a0_3, .bool a0_4, .int .i64 a0_5]) (t := 23) ?hr ?_; (case hd => rfl); (case hg => rfl); (case hr => first | (go_simp; done) | (go_simp; rfl)); intro gb204 hg w10 hbox hb; have n0_ := jA (jK (zb0 HB) hb); have n1_ := jA (hbox); have n2_ := jA ((by rw [hg]; exact (jG (zb0 HB)) : w.heap.size ≤ gb204)); have n3_ := jA ((by rw [hg]; exact (jG (zb0 HB)) : w.heap.size ≤ gb204)); clear HB; have HB := n0_; have BK204 := n1_; have GW204 := n2_; have GE204 := n3_; clear n0_ n1_ n2_ n3_; clear hb hbox hg; have hcz11_0 : w10.cell? ⟨gb204, 0, none⟩ = some (.bool a0_0) := (jC BK204.out 0).trans rfl; have hcz11_1 : w10.cell? ⟨gb204, 1, none⟩ = some (.bool a0_1) := (jC BK204.out 1).trans rfl; have hcz11_2 : w10.cell? ⟨gb204, 2, none⟩ = some (.bool a0_2) := (jC BK204.out 2).trans rfl; have hcz11_3 : w10.cell? ⟨gb204, 3, none⟩ = some (.bool a0_3) := (jC BK204.out 3).trans rfl; have hcz11_4 : w10.cell? ⟨gb204, 4, none⟩ = some (.bool a0_4) := (jC BK204.out 4).trans rfl; have hcz11_5 : w10.cell? ⟨gb204, 5, none⟩ = some (.int .i64 a0_5) := (jC BK204.out 5).trans rfl; have hfz11_0 := jB BK204.out 0; have hfz11_1 := jB BK204.out 1; have hfz11_2 := jB BK204.out 2; have hfz11_3 := jB BK204.out 3; have hfz11_4 := jB BK204.out 4; have hfz11_5 := jB BK204.out 5) | ((with_reducible refine jY (f := 51) rfl ?_); refine goesL_ (some 6) rfl rfl Try.func51 zr rfl #[.agg #[.bool a0_0, .bool a0_1, .bool a0_2, .bool a0_3, .bool a0_4, .int .i64 a0_5]] rfl zm ?_; (with_reducible refine (spec_IsSound.calls a0_0 a0_1 a0_2 a0_3 a0_4 a0_5 true _ A3.out).mono ?_); rintro e w12 ⟨rfl, hb⟩; refine ⟨_, rfl, ?_⟩; have n0_ := jA (jU (g := gb204) (o := .cells #[.bool a0_0, .bool a0_1, .bool a0_2, .bool a0_3, .bool a0_4, .int .i64 a0_5] 23 (0, 0)) (zk BK204) hb); have n1_ := jA (jK (zb1 HB GE204) hb); clear BK204; clear HB; have BK204 := n0_; have HB := n1_; clear n0_ n1_; (try clear hb); (try clear hb2); (try clear hk); (try clear hi)) | (go_at_call 86; (with_reducible refine (spec_l01Rises.calls k _ _ l1 10 false _ ?side1 ?side2 A5.out).mono ?_); (case side1 => exact zs HR1 HB); (case side2 => exact HC1.out); rintro e w' ⟨rfl, ⟨nd, rfl⟩⟩))
   go_ret
   exact ⟨by first | rfl | (simp [errW_none, errW_some] <;> rfl) | (simp [*, errW_none, errW_some] <;> rfl), zb1 HB GE204⟩
 ·replace c4 := Bool.eq_false_iff.mpr c4
  subst c4
  have H1 : (some 1) = some r := by rw [if_neg (show ¬ (false = true) by decide)] at H; exact H
  clear H
  have H := H1
  clear H1
  obtain rfl := jR H
  go_enter Try.func70, Try.ntmps70
  go_wp2_with (first | ((with_reducible refine jO (N := 2) rfl ?_); refine jM ?hg (N := 2) ?hd (cs := #[.bool a0_0, .bool a0_1, .bool a0_2, .bool a0_3, .bool a0_4, .int .i64 a0_5]) (t := 23) ?hr ?_; (case hd => rfl); (case hg => rfl); (case hr => first | (go_simp; done) | (go_simp; rfl)); intro gb204 hg w13 hbox hb; have n0_ := jA (jK (zb0 HB) hb); have n1_ := jA (hbox); have n2_ := jA ((by rw [hg]; exact (jG (zb0 HB)) : w.heap.size ≤ gb204)); have n3_ := jA ((by rw [hg]; exact (jG (zb0 HB)) : w.heap.size ≤ gb204)); clear HB; have HB := n0_; have BK204 := n1_; have GW204 := n2_; have GE204 := n3_; clear n0_ n1_ n2_ n3_; clear hb hbox hg; have hcz14_0 : w13.cell? ⟨gb204, 0, none⟩ = some (.bool a0_0) := (jC BK204.out 0).trans rfl; have hcz14_1 : w13.cell? ⟨gb204, 1, none⟩ = some (.bool a0_1) := (jC BK204.out 1).trans rfl; have hcz14_2 : w13.cell? ⟨gb204, 2, none⟩ = some (.bool a0_2) := (jC BK204.out 2).trans rfl; have hcz14_3 : w13.cell? ⟨gb204, 3, none⟩ = some (.bool a0_3) := (jC BK204.out 3).trans rfl; have hcz14_4 : w13.cell? ⟨gb204, 4, none⟩ = some (.bool a0_4) := (jC BK204.out 4).trans rfl; have hcz14_5 : w13.cell? ⟨gb204, 5, none⟩ = some (.int .i64 a0_5) := (jC BK204.out 5).trans rfl; have hfz14_0 := jB BK204.out 0; have hfz14_1 := jB BK204.out 1; have hfz14_2 := jB BK204.out 2; have hfz14_3 := jB BK204.out 3; have hfz14_4 := jB BK204.out 4; have hfz14_5 := jB BK204.out 5) | ((with_reducible refine jY (f := 51) rfl ?_); refine goesL_ (some 6) rfl rfl Try.func51 zr rfl #[.agg #[.bool a0_0, .bool a0_1, .bool a0_2, .bool a0_3, .bool a0_4, .int .i64 a0_5]] rfl zm ?_; (with_reducible refine (spec_IsSound.calls a0_0 a0_1 a0_2 a0_3 a0_4 a0_5 false _ A3.out).mono ?_); rintro e w15 ⟨rfl, hb⟩; refine ⟨_, rfl, ?_⟩; have n0_ := jA (jU (g := gb204) (o := .cells #[.bool a0_0, .bool a0_1, .bool a0_2, .bool a0_3, .bool a0_4, .int .i64 a0_5] 23 (0, 0)) (zk BK204) hb); have n1_ := jA (jK (zb1 HB GE204) hb); clear BK204; clear HB; have BK204 := n0_; have HB := n1_; clear n0_ n1_; (try clear hb); (try clear hb2); (try clear hk); (try clear hi)))
  go_ret
  exact ⟨by first | rfl | (simp [errW_none, errW_some] <;> rfl) | (simp [*, errW_none, errW_some] <;> rfl), zb1 HB GE204⟩

end Go.Proofs.Ythieppjmjgijfaa.PFnExactAreClosed
