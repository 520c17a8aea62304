/- Functions and contracts that FnExactRoomFor reaches (5 of 15). -/
import Derived.Test.YtdgglhfnlljmeaaQFnExactRoomForx3
namespace Go.Proofs.Ytdgglhfnlljmeaa.PFnExactRoomFor
open Go.RowKit Go.Proofs.YtdgglhfnlljmeaaW.PrintWords Go.Proofs.YtdgglhfnlljmeaaW.PrintLast Go.Proofs.YtdgglhfnlljmeaaW.PrintMore
attribute [local go_sem] max2_int min2_int max_two min_two max_three min_three max_four min_four   -- for this text's walks alone
set_option linter.unusedVariables false
set_option linter.unusedSimpArgs false
open Go.Proofs.YtdgglhfnlljmeaaX

/-! ### spec_IsArticle: function 89 -/
def spec_IsArticle.f (k : Nat) (a0_0 : ByteArray) (a0_1 : Int) (a0_2 : Int) (a0_3 : Int) (a0_4 : Int) (a0_5 : Int) (a0_6 : Int) (a0_7 : Int) (a0_8 : Int) : Option (Bool) := (spec_IsWord.f k a0_0).bind fun t180 => (if t180 = true then ((spec_l01In.f a0_1 0 3).bind fun t181 => (if t181 = true then ((spec_l01In.f a0_2 20 300).bind fun t182 => (if t182 = true then ((spec_l01In.f a0_3 0 10000).bind fun t183 => (if t183 = true then ((spec_l01In.f a0_4 0 a0_3).bind fun t184 => (if t184 = true then ((spec_l01In.f a0_5 1 50).bind fun t185 => (if t185 = true then ((spec_l01In.f a0_6 0 10000).bind fun t186 => (if t186 = true then ((spec_l01In.f a0_7 1 100000).bind fun t187 => (if t187 = true then ((spec_l01In.f a0_8 0 3).bind fun t188 => (some t188)) else (some false))) else (some false))) else (some false))) else (some false))) else (some false))) else (some false))) else (some false))) else (some false))
theorem spec_IsArticle.mono : ∀ a0 a1 a2 a3 a4 a5 a6 a7 a8 k, LeO (spec_IsArticle.f k a0 a1 a2 a3 a4 a5 a6 a7 a8) (spec_IsArticle.f (k + 1) a0 a1 a2 a3 a4 a5 a6 a7 a8) := by
 intro a0 a1 a2 a3 a4 a5 a6 a7 a8 k
 unfold spec_IsArticle.f
 repeat' first
   | (with_reducible exact spec_IsWord.mono _ _)
   | (with_reducible exact LeO.refl _)
   | (with_reducible exact LeO.none _)
   | (with_reducible refine LeO.ite ?_ ?_)
   | (with_reducible refine LeO.bind ?_ (fun _ => ?_))
   | exact spec_IsWord.mono _ _
   | exact LeO.none _
   | refine LeO.ite ?_ ?_
   | refine LeO.bind ?_ (fun _ => ?_)
set_option maxHeartbeats 8000000 in
set_option maxRecDepth 100000 in
theorem spec_IsArticle.calls (k : Nat) (a0_0 : ByteArray) (a0_1 : Int) (a0_2 : Int) (a0_3 : Int) (a0_4 : Int) (a0_5 : Int) (a0_6 : Int) (a0_7 : Int) (a0_8 : Int) (r : Bool) (w : World) (h : spec_IsArticle.f k a0_0 a0_1 a0_2 a0_3 a0_4 a0_5 a0_6 a0_7 a0_8 = some r) :
  Calls Try.prog 89 #[.agg #[.string a0_0, .int .i64 a0_1, .int .i64 a0_2, .int .i64 a0_3, .int .i64 a0_4, .int .i64 a0_5, .int .i64 a0_6, .int .i64 a0_7, .int .i64 a0_8]] w fun e w' => e = .returned (.bool r) ∧ Below w.heap.size w w' := by
 have hu65 := Try.underlying65
 have HB := jB (Below.refl w.heap.size w)
 have H : ((spec_IsWord.f k a0_0).bind fun t180 => (if t180 = true then ((spec_l01In.f a0_1 0 3).bind fun t181 => (if t181 = true then ((spec_l01In.f a0_2 20 300).bind fun t182 => (if t182 = true then ((spec_l01In.f a0_3 0 10000).bind fun t183 => (if t183 = true then ((spec_l01In.f a0_4 0 a0_3).bind fun t184 => (if t184 = true then ((spec_l01In.f a0_5 1 50).bind fun t185 => (if t185 = true then ((spec_l01In.f a0_6 0 10000).bind fun t186 => (if t186 = true then ((spec_l01In.f a0_7 1 100000).bind fun t187 => (if t187 = true then ((spec_l01In.f a0_8 0 3).bind fun t188 => (some t188)) else (some false))) else (some false))) else (some false))) else (some false))) else (some false))) else (some false))) else (some false))) else (some false))) = some r := h
 clear h
 replace H := jP.mp H
 obtain ⟨t180, A20, H⟩ := H
 replace H : (if t180 = true then ((spec_l01In.f a0_1 0 3).bind fun t181 => (if t181 = true then ((spec_l01In.f a0_2 20 300).bind fun t182 => (if t182 = true then ((spec_l01In.f a0_3 0 10000).bind fun t183 => (if t183 = true then ((spec_l01In.f a0_4 0 a0_3).bind fun t184 => (if t184 = true then ((spec_l01In.f a0_5 1 50).bind fun t185 => (if t185 = true then ((spec_l01In.f a0_6 0 10000).bind fun t186 => (if t186 = true then ((spec_l01In.f a0_7 1 100000).bind fun t187 => (if t187 = true then ((spec_l01In.f a0_8 0 3).bind fun t188 => (some t188)) else (some false))) else (some false))) else (some false))) else (some false))) else (some false))) else (some false))) else (some false))) else (some false)) = some r := H
 have A2 := jB A20
 clear A20
 by_cases c3 : t180 = true
 ·subst c3
  have H1 : ((spec_l01In.f a0_1 0 3).bind fun t181 => (if t181 = true then ((spec_l01In.f a0_2 20 300).bind fun t182 => (if t182 = true then ((spec_l01In.f a0_3 0 10000).bind fun t183 => (if t183 = true then ((spec_l01In.f a0_4 0 a0_3).bind fun t184 => (if t184 = true then ((spec_l01In.f a0_5 1 50).bind fun t185 => (if t185 = true then ((spec_l01In.f a0_6 0 10000).bind fun t186 => (if t186 = true then ((spec_l01In.f a0_7 1 100000).bind fun t187 => (if t187 = true then ((spec_l01In.f a0_8 0 3).bind fun t188 => (some t188)) else (some false))) else (some false))) else (some false))) else (some false))) else (some false))) else (some false))) else (some false))) = some r := by rw [if_pos rfl] at H; exact H
  clear H
  have H := H1
  clear H1
  replace H := jP.mp H
  obtain ⟨t181, A40, H⟩ := H
  replace H : (if t181 = true then ((spec_l01In.f a0_2 20 300).bind fun t182 => (if t182 = true then ((spec_l01In.f a0_3 0 10000).bind fun t183 => (if t183 = true then ((spec_l01In.f a0_4 0 a0_3).bind fun t184 => (if t184 = true then ((spec_l01In.f a0_5 1 50).bind fun t185 => (if t185 = true then ((spec_l01In.f a0_6 0 10000).bind fun t186 => (if t186 = true then ((spec_l01In.f a0_7 1 100000).bind fun t187 => (if t187 = true then ((spec_l01In.f a0_8 0 3).bind fun t188 => (some t188)) else (some false))) else (some false))) else (some false))) else (some false))) else (some false))) else (some false))) else (some false)) = some r := H
  have A4 := jB A40
  clear A40
  by_cases c5 : t181 = true
  ·subst c5
   have H1 : ((spec_l01In.f a0_2 20 300).bind fun t182 => (if t182 = true then ((spec_l01In.f a0_3 0 10000).bind fun t183 => (if t183 = true then ((spec_l01In.f a0_4 0 a0_3).bind fun t184 => (if t184 = true then ((spec_l01In.f a0_5 1 50).bind fun t185 => (if t185 = true then ((spec_l01In.f a0_6 0 10000).bind fun t186 => (if t186 = true then ((spec_l01In.f a0_7 1 100000).bind fun t187 => (if t187 = true then ((spec_l01In.f a0_8 0 3).bind fun t188 => (some t188)) else (some false))) else (some false))) else (some false))) else (some false))) else (some false))) else (some false))) = some r := by rw [if_pos rfl] at H; exact H
   clear H
   have H := H1
   clear H1
   replace H := jP.mp H
   obtain ⟨t182, A60, H⟩ := H
   replace H : (if t182 = true then ((spec_l01In.f a0_3 0 10000).bind fun t183 => (if t183 = true then ((spec_l01In.f a0_4 0 a0_3).bind fun t184 => (if t184 = true then ((spec_l01In.f a0_5 1 50).bind fun t185 => (if t185 = true then ((spec_l01In.f a0_6 0 10000).bind fun t186 => (if t186 = true then ((spec_l01In.f a0_7 1 100000).bind fun t187 => (if t187 = true then ((spec_l01In.f a0_8 0 3).bind fun t188 => (some t188)) else (some false))) else (some false))) else (some false))) else (some false))) else (some false))) else (some false)) = some r := H
   have A6 := jB A60
   clear A60
   by_cases c7 : t182 = true
   ·subst c7
    have H1 : ((spec_l01In.f a0_3 0 10000).bind fun t183 => (if t183 = true then ((spec_l01In.f a0_4 0 a0_3).bind fun t184 => (if t184 = true then ((spec_l01In.f a0_5 1 50).bind fun t185 => (if t185 = true then ((spec_l01In.f a0_6 0 10000).bind fun t186 => (if t186 = true then ((spec_l01In.f a0_7 1 100000).bind fun t187 => (if t187 = true then ((spec_l01In.f a0_8 0 3).bind fun t188 => (some t188)) else (some false))) else (some false))) else (some false))) else (some false))) else (some false))) = some r := by rw [if_pos rfl] at H; exact H
    clear H
    have H := H1
    clear H1
    replace H := jP.mp H
    obtain ⟨t183, A80, H⟩ := H
    replace H : (if t183 = true then ((spec_l01In.f a0_4 0 a0_3).bind fun t184 => (if t184 = true then ((spec_l01In.f a0_5 1 50).bind fun t185 => (if t185 = true then ((spec_l01In.f a0_6 0 10000).bind fun t186 => (if t186 = true then ((spec_l01In.f a0_7 1 100000).bind fun t187 => (if t187 = true then ((spec_l01In.f a0_8 0 3).bind fun t188 => (some t188)) else (some false))) else (some false))) else (some false))) else (some false))) else (some false)) = some r := H
    have A8 := jB A80
    clear A80
    by_cases c9 : t183 = true
    ·subst c9
     have H1 : ((spec_l01In.f a0_4 0 a0_3).bind fun t184 => (if t184 = true then ((spec_l01In.f a0_5 1 50).bind fun t185 => (if t185 = true then ((spec_l01In.f a0_6 0 10000).bind fun t186 => (if t186 = true then ((spec_l01In.f a0_7 1 100000).bind fun t187 => (if t187 = true then ((spec_l01In.f a0_8 0 3).bind fun t188 => (some t188)) else (some false))) else (some false))) else (some false))) else (some false))) = some r := by rw [if_pos rfl] at H; exact H
     clear H
     have H := H1
     clear H1
     replace H := jP.mp H
     obtain ⟨t184, A100, H⟩ := H
     replace H : (if t184 = true then ((spec_l01In.f a0_5 1 50).bind fun t185 => (if t185 = true then ((spec_l01In.f a0_6 0 10000).bind fun t186 => (if t186 = true then ((spec_l01In.f a0_7 1 100000).bind fun t187 => (if t187 = true then ((spec_l01In.f a0_8 0 3).bind fun t188 => (some t188)) else (some false))) else (some false))) else (some false))) else (some false)) = some r := H
     have A10 := jB A100
     clear A100
     by_cases c11 : t184 = true
     ·subst c11
      have H1 : ((spec_l01In.f a0_5 1 50).bind fun t185 => (if t185 = true then ((spec_l01In.f a0_6 0 10000).bind fun t186 => (if t186 = true then ((spec_l01In.f a0_7 1 100000).bind fun t187 => (if t187 = true then ((spec_l01In.f a0_8 0 3).bind fun t188 => (some t188)) else (some false))) else (some false))) else (some false))) = some r := by rw [if_pos rfl] at H; exact H
      clear H
      have H := H1
      clear H1
      replace H := jP.mp H
      obtain ⟨t185, A120, H⟩ := H
      replace H : (if t185 = true then ((spec_l01In.f a0_6 0 10000).bind fun t186 => (if t186 = true then ((spec_l01In.f a0_7 1 100000).bind fun t187 => (if t187 = true then ((spec_l01In.f a0_8 0 3).bind fun t188 => (some t188)) else (some false))) else (some false))) else (some false)) = some r := H
      have A12 := jB A120
      clear A120
      by_cases c13 : t185 = true
      ·subst c13
       have H1 : ((spec_l01In.f a0_6 0 10000).bind fun t186 => (if t186 = true then ((spec_l01In.f a0_7 1 100000).bind fun t187 => (if t187 = true then ((spec_l01In.f a0_8 0 3).bind fun t188 => (some t188)) else (some false))) else (some false))) = some r := by rw [if_pos rfl] at H; exact H
       clear H
       have H := H1
       clear H1
       replace H := jP.mp H
       obtain ⟨t186, A140, H⟩ := H
       replace H : (if t186 = true then ((spec_l01In.f a0_7 1 100000).bind fun t187 => (if t187 = true then ((spec_l01In.f a0_8 0 3).bind fun t188 => (some t188)) else (some false))) else (some false)) = some r := H
       have A14 := jB A140
       clear A140
       by_cases c15 : t186 = true
       ·subst c15
        have H1 : ((spec_l01In.f a0_7 1 100000).bind fun t187 => (if t187 = true then ((spec_l01In.f a0_8 0 3).bind fun t188 => (some t188)) else (some false))) = some r := by rw [if_pos rfl] at H; exact H
        clear H
        have H := H1
        clear H1
        replace H := jP.mp H
        obtain ⟨t187, A160, H⟩ := H
        replace H : (if t187 = true then ((spec_l01In.f a0_8 0 3).bind fun t188 => (some t188)) else (some false)) = some r := H
        have A16 := jB A160
        clear A160
        by_cases c17 : t187 = true
        ·subst c17
         have H1 : ((spec_l01In.f a0_8 0 3).bind fun t188 => (some t188)) = some r := by rw [if_pos rfl] at H; exact H
         clear H
         have H := H1
         clear H1
         replace H := jP.mp H
         obtain ⟨t188, A180, H⟩ := H
         replace H : (some t188) = some r := H
         have A18 := jB A180
         clear A180
         obtain rfl := jN H
         go_enter Try.func89, Try.ntmps89
         go_wp2_with (first | ((with_reducible refine jV (N := 1) rfl ?_); refine jU ?hg (N := 1) ?hd (cs := #[.string a0_0, .int .i64 a0_1, .int .i64 a0_2, .int .i64 a0_3, .int .i64 a0_4, .int .i64 a0_5, .int .i64 a0_6, .int .i64 a0_7, .int .i64 a0_8]) (t := 65) ?hr ?_; (case hd => rfl); (case hg => rfl); (case hr => first | (go_simp; done) | (go_simp; rfl)); intro gb179 hg w19 hbox hb; have n0_ := jB (jK (zb0 HB) hb); have n1_ := jB (hbox); have n2_ := jB ((by rw [hg]; exact (jF (zb0 HB)) : w.heap.size ≤ gb179)); have n3_ := jB ((by rw [hg]; exact (jF (zb0 HB)) : w.heap.size ≤ gb179)); clear HB; have HB := n0_; have BK179 := n1_; have GW179 := n2_; have GE179 := n3_; clear n0_ n1_ n2_ n3_; clear hb hbox hg; have hcz20_0 : w19.cell? ⟨gb179, 0, none⟩ = some (.string a0_0) := (jC BK179.out 0).trans rfl; have hcz20_1 : w19.cell? ⟨gb179, 1, none⟩ = some (.int .i64 a0_1) := (jC BK179.out 1).trans rfl; have hcz20_2 : w19.cell? ⟨gb179, 2, none⟩ = some (.int .i64 a0_2) := (jC BK179.out 2).trans rfl; have hcz20_3 : w19.cell? ⟨gb179, 3, none⟩ = some (.int .i64 a0_3) := (jC BK179.out 3).trans rfl; have hcz20_4 : w19.cell? ⟨gb179, 4, none⟩ = some (.int .i64 a0_4) := (jC BK179.out 4).trans rfl; have hcz20_5 : w19.cell? ⟨gb179, 5, none⟩ = some (.int .i64 a0_5) := (jC BK179.out 5).trans rfl; have hcz20_6 : w19.cell? ⟨gb179, 6, none⟩ = some (.int .i64 a0_6) := (jC BK179.out 6).trans rfl; have hcz20_7 : w19.cell? ⟨gb179, 7, none⟩ = some (.int .i64 a0_7) := (jC BK179.out 7).trans rfl; have hcz20_8 : w19.cell? ⟨gb179, 8, none⟩ = some (.int .i64 a0_8) := (jC BK179.out 8).trans rfl; have hfz20_0 := jD BK179.out 0; have hfz20_1 := jD BK179.out 1; have hfz20_2 := jD BK179.out 2; have hfz20_3 := jD BK179.out 3; have hfz20_4 := jD BK179.out 4; have hfz20_5 := jD BK179.out 5; have hfz20_6 := jD BK179.out 6; have hfz20_7 := jD BK179.out 7; have hfz20_8 := jD BK179.out 8) | ((with_reducible refine jW (f := 94) rfl ?_); refine goesL_ (some 5) rfl rfl Try.func94 zr rfl #[.string a0_0] rfl zm ?_; (with_reducible refine (spec_IsWord.calls k a0_0 true _ A2.out).mono ?_); rintro e w' ⟨rfl, ⟨nd, rfl⟩⟩; refine ⟨_, rfl, ?_⟩) | (go_at_call 58; (with_reducible refine (spec_l01In.calls a0_1 0 3 true _ A4.out).mono ?_); rintro e w' ⟨rfl, ⟨nd, rfl⟩⟩) | (go_at_call 58; (with_reducible refine (spec_l01In.calls a0_2 20 300 true _ A6.out).mono ?_); rintro e w' ⟨rfl, ⟨nd, rfl⟩⟩) | (go_at_call 58; (with_reducible refine (spec_l01In.calls a0_3 0 10000 true _ A8.out).mono ?_); rintro e w' ⟨rfl, ⟨nd, rfl⟩⟩) | (go_at_call 58; (with_reducible refine (spec_l01In.calls a0_4 0 a0_3 true _ A10.out).mono ?_); rintro e w' ⟨rfl, ⟨nd, rfl⟩⟩) | (go_at_call 58; (with_reducible refine (spec_l01In.calls a0_5 1 50 true _ A12.out).mono ?_); rintro e w' ⟨rfl, ⟨nd, rfl⟩⟩) | (go_at_call 58; (with_reducible refine (spec_l01In.calls a0_6 0 10000 true _ A14.out).mono ?_); rintro e w' ⟨rfl, ⟨nd, rfl⟩⟩) | (go_at_call 58; (with_reducible refine (spec_l01In.calls a0_7 1 100000 true _ A16.out).mono ?_); rintro e w' ⟨rfl, ⟨nd, rfl⟩⟩) | (go_at_call 58; (with_reducible refine (spec_l01In.calls a0_8 0 3 t188 _ A18.out).mono ?_); rintro e w' ⟨rfl, ⟨nd, rfl⟩⟩))
         go_ret
         exact ⟨by first | rfl | (simp [errW_none, errW_some] <;> rfl) | (simp [*, errW_none, errW_some] <;> rfl), zb1 HB GE179⟩
        ·replace c17 := Bool.eq_false_iff.mpr c17
         subst c17
         have H1 : (some false) = some r := by rw [if_neg (show ¬ (false = true) by decide)] at H; exact H
         clear H
         have H := H1
         clear H1
         obtain rfl := jN H
         go_enter Try.func89, Try.ntmps89
         go_wp2_with (first | ((with_reducible refine jV (N := 1) rfl ?_); refine jU ?hg (N := 1) ?hd (cs := #[.string a0_0, .int .i64 a0_1, .int .i64 a0_2, .int .i64 a0_3, .int .i64 a0_4, .int .i64 a0_5, .int .i64 a0_6, .int .i64 a0_7, .int .i64 a0_8]) (t := 65) ?hr ?_; (case hd => rfl); (case hg => rfl); (case hr => first | (go_simp; done) | (go_simp; rfl)); intro gb179 hg w21 hbox hb; have n0_ := jB (jK (zb0 HB) hb); have n1_ := jB (hbox); have n2_ := jB ((by rw [hg]; exact (jF (zb0 HB)) : w.heap.size ≤ gb179)); have n3_ := jB ((by rw [hg]; exact (jF (zb0 HB)) : w.heap.size ≤ gb179)); clear HB; have HB := n0_; have BK179 := n1_; have GW179 := n2_; have GE179 := n3_; clear n0_ n1_ n2_ n3_; clear hb hbox hg; have hcz22_0 : w21.cell? ⟨gb179, 0, none⟩ = some (.string a0_0) := (jC BK179.out 0).trans rfl; have hcz22_1 : w21.cell? ⟨gb179, 1, none⟩ = some (.int .i64 a0_1) := (jC BK179.out 1).trans rfl; have hcz22_2 : w21.cell? ⟨gb179, 2, none⟩ = some (.int .i64 a0_2) := (jC BK179.out 2).trans rfl; have hcz22_3 : w21.cell? ⟨gb179, 3, none⟩ = some (.int .i64 a0_3) := (jC BK179.out 3).trans rfl; have hcz22_4 : w21.cell? ⟨gb179, 4, none⟩ = some (.int .i64 a0_4) := (jC BK179.out 4).trans rfl; have hcz22_5 : w21.cell? ⟨gb179, 5, none⟩ = some (.int .i64 a0_5) := (jC BK179.out 5).trans rfl; have hcz22_6 : w21.cell? ⟨gb179, 6, none⟩ = some (.int .i64 a0_6) := (jC BK179.out 6).trans rfl; have hcz22_7 : w21.cell? ⟨gb179, 7, none⟩ = some (.int .i64 a0_7) := (jC BK179.out 7).trans rfl; have hcz22_8 : w21.cell? ⟨gb179, 8, none⟩ = some (.int .i64 a0_8) := (jC BK179.out 8).trans rfl; have hfz22_0 := jD BK179.out 0; have hfz22_1 := jD BK179.out 1; have hfz22_2 := jD BK179.out 2; have hfz22_3 := jD BK179.out 3; have hfz22_4 := jD BK179.out 4; have hfz22_5 := jD BK179.out 5; have hfz22_6 := jD BK179.out 6; have hfz22_7 := jD BK179.out 7; have hfz22_8 := jD BK179.out 8) | ((with_reducible refine jW (f := 94) rfl ?_); refine goesL_ (some 5) rfl rfl Try.func94 zr rfl #[.string a0_0] rfl zm ?_; (with_reducible refine (spec_IsWord.calls k a0_0 true _ A2.out).mono ?_); rintro e w' ⟨rfl, ⟨nd, rfl⟩⟩; refine ⟨_, rfl, ?_⟩) | (go_at_call 58; (with_reducible refine (spec_l01In.calls a0_1 0 3 true _ A4.out).mono ?_); rintro e w' ⟨rfl, ⟨nd, rfl⟩⟩) | (go_at_call 58; (with_reducible refine (spec_l01In.calls a0_2 20 300 true _ A6.out).mono ?_); rintro e w' ⟨rfl, ⟨nd, rfl⟩⟩) | (go_at_call 58; (with_reducible refine (spec_l01In.calls a0_3 0 10000 true _ A8.out).mono ?_); rintro e w' ⟨rfl, ⟨nd, rfl⟩⟩) | (go_at_call 58; (with_reducible refine (spec_l01In.calls a0_4 0 a0_3 true _ A10.out).mono ?_); rintro e w' ⟨rfl, ⟨nd, rfl⟩⟩) | (go_at_call 58; (with_reducible refine (spec_l01In.calls a0_5 1 50 true _ A12.out).mono ?_); rintro e w' ⟨rfl, ⟨nd, rfl⟩⟩) | (go_at_call 58; (with_reducible refine (spec_l01In.calls a0_6 0 10000 true _ A14.out).mono ?_); rintro e w' ⟨rfl, ⟨nd, rfl⟩⟩) | (go_at_call 58; (with_reducible refine (spec_l01In.calls a0_7 1 100000 false _ A16.out).mono ?_); rintro e w' ⟨rfl, ⟨nd, rfl⟩⟩))
         go_ret
         exact ⟨by first | rfl | (simp [errW_none, errW_some] <;> rfl) | (simp [*, errW_none, errW_some] <;> rfl), zb1 HB GE179⟩
       ·replace c15 := Bool.eq_false_iff.mpr c15
        subst c15
        have H1 : (some false) = some r := by rw [if_neg (show ¬ (false = true) by decide)] at H; exact H
        clear H
        have H := H1
        clear H1
        obtain rfl := jN H
        go_enter Try.func89, Try.ntmps89
        go_wp2_with (first | ((with_reducible refine jV (N := 1) rfl ?_); refine jU ?hg (N := 1) ?hd (cs := #[.string a0_0, .int .i64 a0_1, .int .i64 a0_2, .int .i64 a0_3, .int .i64 a0_4, .int .i64 a0_5, .int .i64 a0_6, .int .i64 a0_7, .int .i64 a0_8]) (t := 65) ?hr ?_; (case hd => rfl); (case hg => rfl); (case hr => first | (go_simp; done) | (go_simp; rfl)); intro gb179 hg w23 hbox hb; have n0_ := jB (jK (zb0 HB) hb); have n1_ := jB (hbox); have n2_ := jB ((by rw [hg]; exact (jF (zb0 HB)) : w.heap.size ≤ gb179)); have n3_ := jB ((by rw [hg]; exact (jF (zb0 HB)) : w.heap.size ≤ gb179)); clear HB; have HB := n0_; have BK179 := n1_; have GW179 := n2_; have GE179 := n3_; clear n0_ n1_ n2_ n3_; clear hb hbox hg; have hcz24_0 : w23.cell? ⟨gb179, 0, none⟩ = some (.string a0_0) := (jC BK179.out 0).trans rfl; have hcz24_1 : w23.cell? ⟨gb179, 1, none⟩ = some (.int .i64 a0_1) := (jC BK179.out 1).trans rfl; have hcz24_2 : w23.cell? ⟨gb179, 2, none⟩ = some (.int .i64 a0_2) := (jC BK179.out 2).trans rfl; have hcz24_3 : w23.cell? ⟨gb179, 3, none⟩ = some (.int .i64 a0_3) := (jC BK179.out 3).trans rfl; have hcz24_4 : w23.cell? ⟨gb179, 4, none⟩ = some (.int .i64 a0_4) := (jC BK179.out 4).trans rfl; have hcz24_5 : w23.cell? ⟨gb179, 5, none⟩ = some (.int .i64 a0_5) := (jC BK179.out 5).trans rfl; have hcz24_6 : w23.cell? ⟨gb179, 6, none⟩ = some (.int .i64 a0_6) := (jC BK179.out 6).trans rfl; have hcz24_7 : w23.cell? ⟨gb179, 7, none⟩ = some (.int .i64 a0_7) := (jC BK179.out 7).trans rfl; have hcz24_8 : w23.cell? ⟨gb179, 8, none⟩ = some (.int .i64 a0_8) := (jC BK179.out 8).trans rfl; have hfz24_0 := jD BK179.out 0; have hfz24_1 := jD BK179.out 1; have hfz24_2 := jD BK179.out 2; have hfz24_3 := jD BK179.out 3; have hfz24_4 := jD BK179.out 4; have hfz24_5 := jD BK179.out 5; have hfz24_6 := jD BK179.out 6; have hfz24_7 := jD BK179.out 7; have hfz24_8 := jD BK179.out 8) | ((with_reducible refine jW (f := 94) rfl ?_); refine goesL_ (some 5) rfl rfl Try.func94 zr rfl #[.string a0_0] rfl zm ?_; (with_reducible refine (spec_IsWord.calls k a0_0 true _ A2.out).mono ?_); rintro e w' ⟨rfl, ⟨nd, rfl⟩⟩; refine ⟨_, rfl, ?_⟩) | (go_at_call 58; (with_reducible refine (spec_l01In.calls a0_1 0 3 true _ A4.out).mono ?_); rintro e w' ⟨rfl, ⟨nd, rfl⟩⟩) | (go_at_call 58; (with_reducible refine (spec_l01In.calls a0_2 20 300 true _ A6.out).mono ?_); rintro e w' ⟨rfl, ⟨nd, rfl⟩⟩) | (go_at_call 58; (with_reducible refine (spec_l01In.calls a0_3 0 10000 true _ A8.out).mono ?_); rintro e w' ⟨rfl, ⟨nd, rfl⟩⟩) | (go_at_call 58; (with_reducible refine (spec_l01In.calls a0_4 0 a0_3 true _ A10.out).mono ?_); rintro e w' ⟨rfl, ⟨nd, rfl⟩⟩) | (go_at_call 58; (with_reducible refine (spec_l01In.calls a0_5 1 50 true _ A12.out).mono ?_); rintro e w' ⟨rfl, ⟨nd, rfl⟩⟩) | (go_at_call 58; (with_reducible refine (spec_l01In.calls a0_6 0 10000 false _ A14.out).mono ?_); rintro e w' ⟨rfl, ⟨nd, rfl⟩⟩))
        go_ret
        exact ⟨by first | rfl | (simp [errW_none, errW_some] <;> rfl) | (simp [*, errW_none, errW_some] <;> rfl), zb1 HB GE179⟩
      ·replace c13 := Bool.eq_false_iff.mpr c13
       subst c13
       have H1 : (some false) = some r := by rw [if_neg (show ¬ (false = true) by decide)] at H; exact H
       clear H
       have H := H1
       clear H1
       obtain rfl := jN H
       go_enter Try.func89, Try.ntmps89
       go_wp2_with (first | ((with_reducible refine jV (N := 1) rfl ?_); refine jU ?hg (N := 1) ?hd (cs := #[.string a0_0, .int .i64 a0_1, .int .i64 a0_2, .int .i64 a0_3, .int .i64 a0_4, .int .i64 a0_5, .int .i64 a0_6, .int .i64 a0_7, .int .i64 a0_8]) (t := 65) ?hr ?_; (case hd => rfl); (case hg => rfl); (case hr => first | (go_simp; done) | (go_simp; rfl)); intro gb179 hg w25 hbox hb; have n0_ := jB (jK (zb0 HB) hb); have n1_ := jB (hbox); have n2_ := jB ((by rw [hg]; exact (jF (zb0 HB)) : w.heap.size ≤ gb179)); have n3_ := jB ((by rw [hg]; exact (jF (zb0 HB)) : w.heap.size ≤ gb179)); clear HB; have HB := n0_; have BK179 := n1_; have GW179 := n2_; have GE179 := n3_; clear n0_ n1_ n2_ n3_; clear hb hbox hg; have hcz26_0 : w25.cell? ⟨gb179, 0, none⟩ = some (.string a0_0) := (jC BK179.out 0).trans rfl; have hcz26_1 : w25.cell? ⟨gb179, 1, none⟩ = some (.int .i64 a0_1) := (jC BK179.out 1).trans rfl; have hcz26_2 : w25.cell? ⟨gb179, 2, none⟩ = some (.int .i64 a0_2) := (jC BK179.out 2).trans rfl; have hcz26_3 : w25.cell? ⟨gb179, 3, none⟩ = some (.int .i64 a0_3) := (jC BK179.out 3).trans rfl; have hcz26_4 : w25.cell? ⟨gb179, 4, none⟩ = some (.int .i64 a0_4) := (jC BK179.out 4).trans rfl; have hcz26_5 : w25.cell? ⟨gb179, 5, none⟩ = some (.int .i64 a0_5) := (jC BK179.out 5).trans rfl; have hcz26_6 : w25.cell? ⟨gb179, 6, none⟩ = some (.int .i64 a0_6) := (jC BK179.out 6).trans rfl; have hcz26_7 : w25.cell? ⟨gb179, 7, none⟩ = some (.int .i64 a0_7) := (jC BK179.out 7).trans rfl; have hcz26_8 : w25.cell? ⟨gb179, 8, none⟩ = some (.int .i64 a0_8) := (jC BK179.out 8).trans rfl; have hfz26_0 := jD BK179.out 0; have hfz26_1 := jD BK179.out 1; have hfz26_2 := jD BK179.out 2; have hfz26_3 := jD BK179.out 3; have hfz26_4 := jD BK179.out 4; have hfz26_5 := jD BK179.out 5; have hfz26_6 := jD BK179.out 6; have hfz26_7 := jD BK179.out 7; have hfz26_8 := jD BK179.out 8) | ((with_reducible refine jW (f := 94) rfl ?_); refine goesL_ (some 5) rfl rfl Try.func94 zr rfl #[.string a0_0] rfl zm ?_; (with_reducible refine (spec_IsWord.calls k a0_0 true _ A2.out).mono ?_); rintro e w' ⟨rfl, ⟨nd, rfl⟩⟩; refine ⟨_, rfl, ?_⟩) | (go_at_call 58; (with_reducible refine (spec_l01In.calls a0_1 0 3 true _ A4.out).mono ?_); rintro e w' ⟨rfl, ⟨nd, rfl⟩⟩) | (go_at_call 58; (with_reducible refine (spec_l01In.calls a0_2 20 300 true _ A6.out).mono ?_); rintro e w' ⟨rfl, ⟨nd, rfl⟩⟩) | (go_at_call 58; (with_reducible refine (spec_l01In.calls a0_3 0 10000 true _ A8.out).mono ?_); rintro e w' ⟨rfl, ⟨nd, rfl⟩⟩) | (go_at_call 58; (with_reducible refine (spec_l01In.calls a0_4 0 a0_3 true _ A10.out).mono ?_); rintro e w' ⟨rfl, ⟨nd, rfl⟩⟩) | (go_at_call 58; (with_reducible refine (spec_l01In.calls a0_5 1 50 false _ A12.out).mono ?_); rintro e w' ⟨rfl, ⟨nd, rfl⟩⟩))
       go_ret
       exact ⟨by first | rfl | (simp [errW_none, errW_some] <;> rfl) | (simp [*, errW_none, errW_some] <;> rfl), zb1 HB GE179⟩
     ·replace c11 := Bool.eq_false_iff.mpr c11
      subst c11
      have H1 : (some false) = some r := by rw [if_neg (show ¬ (false = true) by decide)] at H; exact H
      clear H
      have H := H1
      clear H1
      obtain rfl := jN H
      go_enter Try.func89, Try.ntmps89
      go_wp2_with (first | ((with_reducible refine jV (N := 1) rfl ?_); refine jU ?hg (N := 1) ?hd (cs := #[.string a0_0, .int .i64 a0_1, .int .i64 a0_2, .int .i64 a0_3, .int .i64 a0_4, .int .i64 a0_5, .int .i64 a0_6, .int .i64 a0_7, .int .i64 a0_8]) (t := 65) ?hr ?_; (case hd => rfl); (case hg => rfl); (case hr => first | (go_simp; done) | (go_simp; rfl)); intro gb179 hg w27 hbox hb; have n0_ := jB (jK (zb0 HB) hb); have n1_ := jB (hbox); have n2_ := jB ((by rw [hg]; exact (jF (zb0 HB)) : w.heap.size ≤ gb179)); have n3_ := jB ((by rw [hg]; exact (jF (zb0 HB)) : w.heap.size ≤ gb179)); clear HB; have HB := n0_; have BK179 := n1_; have GW179 := n2_; have GE179 := n3_; clear n0_ n1_ n2_ n3_; clear hb hbox hg; have hcz28_0 : w27.cell? ⟨gb179, 0, none⟩ = some (.string a0_0) := (jC BK179.out 0).trans rfl; have hcz28_1 : w27.cell? ⟨gb179, 1, none⟩ = some (.int .i64 a0_1) := (jC BK179.out 1).trans rfl; have hcz28_2 : w27.cell? ⟨gb179, 2, none⟩ = some (.int .i64 a0_2) := (jC BK179.out 2).trans rfl; have hcz28_3 : w27.cell? ⟨gb179, 3, none⟩ = some (.int .i64 a0_3) := (jC BK179.out 3).trans rfl; have hcz28_4 : w27.cell? ⟨gb179, 4, none⟩ = some (.int .i64 a0_4) := (jC BK179.out 4).trans rfl; have hcz28_5 : w27.cell? ⟨gb179, 5, none⟩ = some (.int .i64 a0_5) := (jC BK179.out 5).trans rfl; have hcz28_6 : w27.cell? ⟨gb179, 6, none⟩ = some (.int .i64 a0_6) := (jC BK179.out 6).trans rfl; have hcz28_7 : w27.cell? ⟨gb179, 7, none⟩ = some (.int .i64 a0_7) := (jC BK179.out 7).trans rfl; have hcz28_8 : w27.cell? ⟨gb179, 8, none⟩ = some (.int .i64 a0_8) := (jC BK179.out 8).trans rfl; have hfz28_0 := jD BK179.out 0; have hfz28_1 := jD BK179.out 1; have hfz28_2 := jD BK179.out 2; have hfz28_3 := jD BK179.out 3; have hfz28_4 := jD BK179.out 4; have hfz28_5 := jD BK179.out 5; have hfz28_6 := jD BK179.out 6; have hfz28_7 := jD BK179.out 7; have hfz28_8 := jD BK179.out 8) | ((with_reducible refine jW (f := 94) rfl ?_); refine goesL_ (some 5) rfl rfl Try.func94 zr rfl #[.string a0_0] rfl zm ?_; (with_reducible refine (spec_IsWord.calls k a0_0 true _ A2.out).mono ?_); rintro e w' ⟨rfl, ⟨nd, rfl⟩⟩; refine ⟨_, rfl, ?_⟩) | (go_at_call 58; (with_reducible refine (spec_l01In.calls a0_1 0 3 true _ A4.out).mono ?_); rintro e w' ⟨rfl, ⟨nd, rfl⟩⟩) | (go_at_call 58; (with_reducible refine (spec_l01In.calls a0_2 20 300 true _ A6.out).mono ?_); rintro e w' ⟨rfl, ⟨nd, rfl⟩⟩) | (go_at_call 58; (with_reducible refine (spec_l01In.calls a0_3 0 10000 true _ A8.out).mono ?_); rintro e w' ⟨rfl, ⟨nd, rfl⟩⟩) | (go_at_call 58; (with_reducible refine (spec_l01In.calls a0_4 0 a0_3 false _ A10.out).mono ?_); rintro e w' ⟨rfl, ⟨nd, rfl⟩⟩))
      go_ret
      exact ⟨by first | rfl | (simp [errW_none, errW_some] <;> rfl) | (simp [*, errW_none, errW_some] <;> rfl), zb1 HB GE179⟩
    ·replace c9 := Bool.eq_false_iff.mpr c9
     subst c9
     have H1 : (some false) = some r := by rw [if_neg (show ¬ (false = true) by decide)] at H; exact H
     clear H
     have H := H1
     clear H1
     obtain rfl := jN H
     go_enter Try.func89, Try.ntmps89
     go_wp2_with (first | ((with_reducible refine jV (N := 1) rfl ?_); refine jU ?hg (N := 1) ?hd (cs := #[.string a0_0, .int .i64 a0_1, .int .i64 a0_2, .int .i64 a0_3, .int .i64 a0_4, .int .i64 a0_5, .int .i64 a0_6, .int .i64 a0_7, .int .i64 a0_8]) (t := 65) ?hr ?_; (case hd => rfl); (case hg => rfl); (case hr => first | (go_simp; done) | (go_simp; rfl)); intro gb179 hg w29 hbox hb; have n0_ := jB (jK (zb0 HB) hb); have n1_ := jB (hbox); have n2_ := jB ((by rw [hg]; exact (jF (zb0 HB)) : w.heap.size ≤ gb179)); have n3_ := jB ((by rw [hg]; exact (jF (zb0 HB)) : w.heap.size ≤ gb179)); clear HB; have HB := n0_; have BK179 := n1_; have GW179 := n2_; have GE179 := n3_; clear n0_ n1_ n2_ n3_; clear hb hbox hg; have hcz30_0 : w29.cell? ⟨gb179, 0, none⟩ = some (.string a0_0) := (jC BK179.out 0).trans rfl; have hcz30_1 : w29.cell? ⟨gb179, 1, none⟩ = some (.int .i64 a0_1) := (jC BK179.out 1).trans rfl; have hcz30_2 : w29.cell? ⟨gb179, 2, none⟩ = some (.int .i64 a0_2) := (jC BK179.out 2).trans rfl; have hcz30_3 : w29.cell? ⟨gb179, 3, none⟩ = some (.int .i64 a0_3) := (jC BK179.out 3).trans rfl; have hcz30_4 : w29.cell? ⟨gb179, 4, none⟩ = some (.int .i64 a0_4) := (jC BK179.out 4).trans rfl; have hcz30_5 : w29.cell? ⟨gb179, 5, none⟩ = some (.int .i64 a0_5) := (jC BK179.out 5).trans rfl; have hcz30_6 : w29.cell? ⟨gb179, 6, none⟩ = some (.int .i64 a0_6) := (jC BK179.out 6).trans rfl; have hcz30_7 : w29.cell? ⟨gb179, 7, none⟩ = some (.int .i64 a0_7) := (jC BK179.out 7).trans rfl; have hcz30_8 : w29.cell? ⟨gb179, 8, none⟩ = some (.int .i64 a0_8) := (jC BK179.out 8).trans rfl; have hfz30_0 := jD BK179.out 0; have hfz30_1 := jD BK179.out 1; have hfz30_2 := jD BK179.out 2; have hfz30_3 := jD BK179.out 3; have hfz30_4 := jD BK179.out 4; have hfz30_5 := jD BK179.out 5; have hfz30_6 := jD BK179.out 6; have hfz30_7 := jD BK179.out 7; have hfz30_8 := jD BK179.out 8) | ((with_reducible refine jW (f := 94) rfl ?_); refine goesL_ (some 5) rfl rfl Try.func94 zr rfl #[.string a0_0] rfl zm ?_; (with_reducible refine (spec_IsWord.calls k a0_0 true _ A2.out).mono ?_); rintro e w' ⟨rfl, ⟨nd, rfl⟩⟩; refine ⟨_, rfl, ?_⟩) | (go_at_call 58; (with_reducible refine (spec_l01In.calls a0_1 0 3 true _ A4.out).mono ?_); rintro e w' ⟨rfl, ⟨nd, rfl⟩⟩) | (go_at_call 58; (with_reducible refine (spec_l01In.calls a0_2 20 300 true _ A6.out).mono ?_); rintro e w' ⟨rfl, ⟨nd, rfl⟩⟩) | (go_at_call 58; (with_reducible refine (spec_l01In.calls a0_3 0 10000 false _ A8.out).mono ?_); rintro e w' ⟨rfl, ⟨nd, rfl⟩⟩))
     go_ret
     exact ⟨by first | rfl | (simp [errW_none, errW_some] <;> rfl) | (simp [*, errW_none, errW_some] <;> rfl), zb1 HB GE179⟩
   ·replace c7 := Bool.eq_false_iff.mpr c7
    subst c7
    have H1 : (some false) = some r := by rw [if_neg (show ¬ (false = true) by decide)] at H; exact H
    clear H
    have H := H1
    clear H1
    obtain rfl := jN H
    go_enter Try.func89, Try.ntmps89
    go_wp2_with (first | ((with_reducible refine jV (N := 1) rfl ?_); refine jU ?hg (N := 1) ?hd (cs := #[.string a0_0, .int .i64 a0_1, .int .i64 a0_2, .int .i64 a0_3, .int .i64 a0_4, .int .i64 a0_5, .int .i64 a0_6, .int .i64 a0_7, .int .i64 a0_8]) (t := 65) ?hr ?_; (case hd => rfl); (case hg => rfl); (case hr => first | (go_simp; done) | (go_simp; rfl)); intro gb179 hg w31 hbox hb; have n0_ := jB (jK (zb0 HB) hb); have n1_ := jB (hbox); have n2_ := jB ((by rw [hg]; exact (jF (zb0 HB)) : w.heap.size ≤ gb179)); have n3_ := jB ((by rw [hg]; exact (jF (zb0 HB)) : w.heap.size ≤ gb179)); clear HB; have HB := n0_; have BK179 := n1_; have GW179 := n2_; have GE179 := n3_; clear n0_ n1_ n2_ n3_; clear hb hbox hg; have hcz32_0 : w31.cell? ⟨gb179, 0, none⟩ = some (.string a0_0) := (jC BK179.out 0).trans rfl; have hcz32_1 : w31.cell? ⟨gb179, 1, none⟩ = some (.int .i64 a0_1) := (jC BK179.out 1).trans rfl; have hcz32_2 : w31.cell? ⟨gb179, 2, none⟩ = some (.int .i64 a0_2) := (jC BK179.out 2).trans rfl; have hcz32_3 : w31.cell? ⟨gb179, 3, none⟩ = some (.int .i64 a0_3) := (jC BK179.out 3).trans rfl; have hcz32_4 : w31.cell? ⟨gb179, 4, none⟩ = some (.int .i64 a0_4) := (jC BK179.out 4).trans rfl; have hcz32_5 : w31.cell? ⟨gb179, 5, none⟩ = some (.int .i64 a0_5) := (jC BK179.out 5).trans rfl; have hcz32_6 : w31.cell? ⟨gb179, 6, none⟩ = some (.int .i64 a0_6) := (jC BK179.out 6).trans rfl; have hcz32_7 : w31.cell? ⟨gb179, 7, none⟩ = some (.int .i64 a0_7) := (jC BK179.out 7).trans rfl; have hcz32_8 : w31.cell? ⟨gb179, 8, none⟩ = some (.int .i64 a0_8) := (jC BK179.out 8).trans rfl; have hfz32_0 := jD BK179.out 0; have hfz32_1 := jD BK179.out 1; have hfz32_2 := jD BK179.out 2; have hfz32_3 := jD BK179.out 3; have hfz32_4 := jD BK179.out 4; have hfz32_5 := jD BK179.out 5; have hfz32_6 := jD BK179.out 6; have hfz32_7 := jD BK179.out 7; have hfz32_8 := jD BK179.out 8) | ((with_reducible refine jW (f := 94) rfl ?_); refine goesL_ (some 5) rfl rfl Try.func94 zr rfl #[.string a0_0] rfl zm ?_; (with_reducible refine (spec_IsWord.calls k a0_0 true _ A2.out).mono ?_); rintro e w' ⟨rfl, ⟨nd, rfl⟩⟩; refine ⟨_, rfl, ?_⟩) | (go_at_call 58; (with_reducible refine (spec_l01In.calls a0_1 0 3 true _ A4.out).mono ?_); rintro e w' ⟨rfl, ⟨nd, rfl⟩⟩) | (go_at_call 58; (with_reducible refine (spec_l01In.calls a0_2 20 300 false _ A6.out).mono ?_); rintro e w' ⟨rfl, ⟨nd, rfl⟩⟩))
    go_ret
    exact ⟨by first | rfl | (simp [errW_none, errW_some] <;> rfl) | (simp [*, errW_none, errW_some] <;> rfl), zb1 HB GE179⟩
  ·replace c5 := Bool.eq_false_iff.mpr c5
   subst c5
   have H1 : (some false) = some r := by rw [if_neg (show ¬ (false = true) by decide)] at H; exact H
   clear H
   have H := H1
   clear H1
   obtain rfl := jN H
   go_enter Try.func89, Try.ntmps89
   go_wp2_with (first | ((with_reducible refine jV (N := 1) rfl ?_); refine jU ?hg (N := 1) ?hd (cs := #[.string a0_0, .int .i64 a0_1, .int .i64 a0_2, .int .i64 a0_3, .int .i64 a0_4, .int .i64 a0_5, .int .i64 a0_6, .int .i64 a0_7, .int .i64 a0_8]) (t := 65) ?hr ?_; (case hd => rfl); (case hg => rfl); (case hr => first | (go_simp; done) | (go_simp; rfl)); intro gb179 hg w33 hbox hb; have n0_ := jB (jK (zb0 HB) hb); have n1_ := jB (hbox); have n2_ := jB ((by rw [hg]; exact (jF (zb0 HB)) : w.heap.size ≤ gb179)); have n3_ := jB ((by rw [hg]; exact (jF (zb0 HB)) : w.heap.size ≤ gb179)); clear HB; have HB := n0_; have BK179 := n1_; have GW179 := n2_; have GE179 := n3_; clear n0_ n1_ n2_ n3_; clear hb hbox hg; have hcz34_0 : w33.cell? ⟨gb179, 0, none⟩ = some (.string a0_0) := (jC BK179.out 0).trans rfl; have hcz34_1 : w33.cell? ⟨gb179, 1, none⟩ = some (.int .i64 a0_1) := (jC BK179.out 1).trans rfl; have hcz34_2 : w33.cell? ⟨gb179, 2, none⟩ = some (.int .i64 a0_2) := (jC BK179.out 2).trans rfl; have hcz34_3 : w33.cell? ⟨gb179, 3, none⟩ = some (.int .i64 a0_3) := (jC BK179.out 3).trans rfl; have hcz34_4 : w33.cell? ⟨gb179, 4, none⟩ = some (.int .i64 a0_4) := (jC BK179.out 4).trans rfl; have hcz34_5 : w33.cell? ⟨gb179, 5, none⟩ = some (.int .i64 a0_5) := (jC BK179.out 5).trans rfl; have hcz34_6 : w33.cell? ⟨gb179, 6, none⟩ = some (.int .i64 a0_6) := (jC BK179.out 6).trans rfl; have hcz34_7 : w33.cell? ⟨gb179, 7, none⟩ = some (.int .i64 a0_7) := (jC BK179.out 7).trans rfl; have hcz34_8 : w33.cell? ⟨gb179, 8, none⟩ = some (.int .i64 a0_8) := (jC BK179.out 8).trans rfl; have hfz34_0 := jD BK179.out 0; have hfz34_1 := jD BK179.out 1; have hfz34_2 := jD BK179.out 2; have hfz34_3 := jD BK179.out 3; have hfz34_4 := jD BK179.out 4; have hfz34_5 := jD BK179.out 5; have hfz34_6 := jD BK179.out 6; have hfz34_7 := jD BK179.out 7; have hfz34_8 := jD BK179.out 8) | ((with_reducible refine jW (f := 94) rfl ?_); refine goesL_ (some 5) rfl rfl Try.func94 zr rfl #[.string a0_0] rfl zm ?_; (with_reducible refine (spec_IsWord.calls k a0_0 true _ A2.out).mono ?_); rintro e w' ⟨rfl, ⟨nd, rfl⟩⟩; refine ⟨_, rfl, ?_⟩) | (go_at_call 58; (with_reducible refine (spec_l01In.calls a0_1 0 3 false _ A4.out).mono ?_); rintro e w' ⟨rfl, ⟨nd, rfl⟩⟩))
   go_ret
   exact ⟨by first | rfl | (simp [errW_none, errW_some] <;> rfl) | (simp [*, errW_none, errW_some] <;> rfl), zb1 HB GE179⟩
 ·replace c3 := Bool.eq_false_iff.mpr c3
  subst c3
  have H1 : (some false) = some r := by rw [if_neg (show ¬ (false = true) by decide)] at H; exact H
  clear H
  have H := H1
  clear H1
  obtain rfl := jN H
  go_enter Try.func89, Try.ntmps89
  go_wp2_with (first | ((with_reducible refine jV (N := 1) rfl ?_); refine jU ?hg (N := 1) ?hd (cs := #[.string a0_0, .int .i64 a0_1, .int .i64 a0_2, .int .i64 a0_3, .int .i64 a0_4, .int .i64 a0_5, .int .i64 a0_6, .int .i64 a0_7, .int .i64 a0_8]) (t := 65) ?hr ?_; (case hd => rfl); (case hg => rfl); (case hr => first | (go_simp; done) | (go_simp; rfl)); intro gb179 hg w35 hbox hb; have n0_ := jB (jK (zb0 HB) hb); have n1_ := jB (hbox); have n2_ := jB ((by rw [hg]; exact (jF (zb0 HB)) : w.heap.size ≤ gb179)); have n3_ := jB ((by rw [hg]; exact (jF (zb0 HB)) : w.heap.size ≤ gb179)); clear HB; have HB := n0_; have BK179 := n1_; have GW179 := n2_; have GE179 := n3_; clear n0_ n1_ n2_ n3_; clear hb hbox hg; have hcz36_0 : w35.cell? ⟨gb179, 0, none⟩ = some (.string a0_0) := (jC BK179.out 0).trans rfl; have hcz36_1 : w35.cell? ⟨gb179, 1, none⟩ = some (.int .i64 a0_1) := (jC BK179.out 1).trans rfl; have hcz36_2 : w35.cell? ⟨gb179, 2, none⟩ = some (.int .i64 a0_2) := (jC BK179.out 2).trans rfl; have hcz36_3 : w35.cell? ⟨gb179, 3, none⟩ = some (.int .i64 a0_3) := (jC BK179.out 3).trans rfl; have hcz36_4 : w35.cell? ⟨gb179, 4, none⟩ = some (.int .i64 a0_4) := (jC BK179.out 4).trans rfl; have hcz36_5 : w35.cell? ⟨gb179, 5, none⟩ = some (.int .i64 a0_5) := (jC BK179.out 5).trans rfl; have hcz36_6 : w35.cell? ⟨gb179, 6, none⟩ = some (.int .i64 a0_6) := (jC BK179.out 6).trans rfl; have hcz36_7 : w35.cell? ⟨gb179, 7, none⟩ = some (.int .i64 a0_7) := (jC BK179.out 7).trans rfl; have hcz36_8 : w35.cell? ⟨gb179, 8, none⟩ = some (.int .i64 a0_8) := (jC BK179.out 8).trans rfl; have hfz36_0 := jD BK179.out 0; have hfz36_1 := jD BK179.out 1; have hfz36_2 := jD BK179.out 2; have hfz36_3 := jD BK179.out 3; have hfz36_4 := jD BK179.out 4; have hfz36_5 := jD BK179.out 5; have hfz36_6 := jD BK179.out 6; have hfz36_7 := jD BK179.out 7; have hfz36_8 := jD BK179.out 8) | ((with_reducible refine jW (f := 94) rfl ?_); refine goesL_ (some 5) rfl rfl Try.func94 zr rfl #[.string a0_0] rfl zm ?_; (with_reducible refine (spec_IsWord.calls k a0_0 false _ A2.out).mono ?_); rintro e w' ⟨rfl, ⟨nd, rfl⟩⟩; refine ⟨_, rfl, ?_⟩))
  go_ret
  exact ⟨by first | rfl | (simp [errW_none, errW_some] <;> rfl) | (simp [*, errW_none, errW_some] <;> rfl), zb1 HB GE179⟩

end Go.Proofs.Ytdgglhfnlljmeaa.PFnExactRoomFor
