/- Functions and contracts that FnExactStorePieces reaches (8 of 17). -/
import Derived.Test.YtdgglhfnlljmeaaQFnExactStorePiecesx6
namespace Go.Proofs.Ytdgglhfnlljmeaa.PFnExactStorePieces
open Go.RowKit Go.Proofs.YtdgglhfnlljmeaaW.PrintWords Go.Proofs.YtdgglhfnlljmeaaW.PrintLast Go.Proofs.YtdgglhfnlljmeaaW.PrintMore
attribute [local go_sem] max2_int min2_int max_two min_two max_three min_three max_four min_four   -- for this text's walks alone
set_option linter.unusedVariables false
set_option linter.unusedSimpArgs false
open Go.Proofs.YtdgglhfnlljmeaaX

/-! ### impl_AreArticles: function 60 -/
def impl_AreArticles.l0 : Nat → List (S65) → List (S65) → Int → Int → Option (Bool)
 | 0, _, _, _, _ => none
 | k + 1, x0, x8, x9, x10 => if x10 < x9 then (if 0 ≤ x10 then (if x10 < (x8.length : Int) then ((impl_IsArticle.f k ((rd_T65 x8 x10).f0) ((rd_T65 x8 x10).f1) ((rd_T65 x8 x10).f2) ((rd_T65 x8 x10).f3) ((rd_T65 x8 x10).f4) ((rd_T65 x8 x10).f5) ((rd_T65 x8 x10).f6) ((rd_T65 x8 x10).f7) ((rd_T65 x8 x10).f8)).bind fun t213 => (if t213 = true then (if x10 > 0 then (if 0 ≤ (wrap64 (x10 - 1)) then (if (wrap64 (x10 - 1)) < (x0.length : Int) then (if (Op.bytesLess (((rd_T65 x0 (wrap64 (x10 - 1))).f0).toList) (((rd_T65 x8 x10).f0).toList)) = true then (impl_AreArticles.l0 k x0 x8 x9 (wrap64 (x10 + 1))) else (some false)) else (none)) else (none)) else (impl_AreArticles.l0 k x0 x8 x9 (wrap64 (x10 + 1)))) else (some false))) else (none)) else (none)) else (some true)
def impl_AreArticles.f (k : Nat) (l0 : List (S65)) : Option (Bool) := if (l0.length : Int) > 12 then (some false) else (impl_AreArticles.l0 k l0 l0 (l0.length : Int) 0)
theorem impl_AreArticles.mono_l : ∀ k, (∀ y0 y1 y2 y3, LeO (impl_AreArticles.l0 k y0 y1 y2 y3) (impl_AreArticles.l0 (k + 1) y0 y1 y2 y3))
 | 0 => fun _ _ _ _ r h => by simp [impl_AreArticles.l0] at h
 | k + 1 => by
  have ih0 := impl_AreArticles.mono_l k
  ·intro y0 y1 y2 y3
   unfold impl_AreArticles.l0
   repeat' first
   | (with_reducible exact ih0 _ _ _ _)
   | (with_reducible exact impl_IsArticle.mono _ _ _ _ _ _ _ _ _ _)
   | (with_reducible exact LeO.refl _)
   | (with_reducible exact LeO.none _)
   | (with_reducible refine LeO.ite ?_ ?_)
   | (with_reducible refine LeO.bind ?_ (fun _ => ?_))
   | exact ih0 _ _ _ _
   | exact impl_IsArticle.mono _ _ _ _ _ _ _ _ _ _
   | exact LeO.none _
   | refine LeO.ite ?_ ?_
   | refine LeO.bind ?_ (fun _ => ?_)
theorem impl_AreArticles.mono : ∀ a0 k, LeO (impl_AreArticles.f k a0) (impl_AreArticles.f (k + 1) a0) := by
 intro a0 k
 have ih0 := impl_AreArticles.mono_l k
 unfold impl_AreArticles.f
 repeat' first
   | (with_reducible exact ih0 _ _ _ _)
   | (with_reducible exact impl_IsArticle.mono _ _ _ _ _ _ _ _ _ _)
   | (with_reducible exact LeO.refl _)
   | (with_reducible exact LeO.none _)
   | (with_reducible refine LeO.ite ?_ ?_)
   | (with_reducible refine LeO.bind ?_ (fun _ => ?_))
   | exact ih0 _ _ _ _
   | exact impl_IsArticle.mono _ _ _ _ _ _ _ _ _ _
   | exact LeO.none _
   | refine LeO.ite ?_ ?_
   | refine LeO.bind ?_ (fun _ => ?_)
def impl_AreArticles.T6 : Bool × List (List Nat × List Nat) := (true, [([], []), ([0], [0]), ([1], [1]), ([2, 1], [2]), ([3], [3]), ([4, 3], [3, 4]), ([5, 3, 3], [3, 5]), ([6], [6]), ([6], [6]), ([8, 6], [6, 8]), ([7, 9, 6], [6, 7, 9]), ([10, 6], [6, 10]), ([11, 6], [6, 11]), ([6], [6]), ([13, 6], [6, 13]), ([12, 14, 6], [6, 12, 14]), ([6, 15, 3], [3, 6, 15]), ([3, 16], [3, 16])])
def impl_AreArticles.B6 : List Nat := [0, 1, 3, 7, 15, 31, 63, 127, 127, 383, 1023, 2047, 4095, 127, 8319, 32767, 65535, 131071]
theorem impl_AreArticles.tab6 : rtab .any (opsOf Try.f60 6) = impl_AreArticles.T6 := by kernel_rfl
theorem impl_AreArticles.bits6 : waitsOk impl_AreArticles.T6.2 impl_AreArticles.B6 = true := by kernel_rfl
set_option maxHeartbeats 8000000 in
set_option maxRecDepth 100000 in
theorem impl_AreArticles.calls (k : Nat) (A0 : Option Addr) (c0 : Nat) (l0 : List (S65)) (r : Bool) (w : World) (hr0 : Kd.C k65 w A0 l0.length l0) (hc0 : l0.length ≤ c0) (h : impl_AreArticles.f k l0 = some r) :
  Calls Try.prog 60 #[.slice A0 l0.length c0] w fun e w' => e = .returned (.bool r) ∧ Below w.heap.size w w' := by
 have hu65 := Try.underlying65
 have HR0 := jA hr0
 have HC0 := jA hc0
 clear hr0 hc0
 have HB := jA (Below.refl w.heap.size w)
 have H : (if (l0.length : Int) > 12 then (some false) else (impl_AreArticles.l0 k l0 l0 (l0.length : Int) 0)) = some r := h
 clear h
 by_cases c2 : (l0.length : Int) > 12
 ·rw [if_pos c2] at H
  have c2b0 : decide (12 < (l0.length : Int)) = true := jQ c2
  have c2b1 : decide (12 < l0.length) = true := jQ (by omega)
  clear c2
  obtain rfl := jM H
  go_enter Try.func60, Try.ntmps60
  go_wp2
  go_ret
  exact ⟨by first | rfl | (simp [errW_none, errW_some] <;> rfl) | (simp [*, errW_none, errW_some] <;> rfl), zb0 HB⟩
 ·rw [if_neg c2] at H
  have c2b0 : decide (12 < (l0.length : Int)) = false := jY c2
  have c2b1 : decide (12 < l0.length) = false := jY (by omega)
  clear c2
  have H' := jA H
  clear H
  go_enter Try.func60, Try.ntmps60
  go_wp2
  go_loopg [10] k (fun kq v10 w' => ∃ (x10_1 : Int), v10 = .int .i64 x10_1 ∧ Aside0 (impl_AreArticles.l0 kq l0 l0 (l0.length : Int) x10_1 = some r) ∧ Aside0 (kq ≤ k) ∧ Aside0 (Below w.heap.size w w'))
  case atStart => exact ⟨(0), zz, H', ⟨Nat.le_refl _⟩, ⟨zb0 HB⟩⟩
  case round =>
   clear H'
   try clear c2
   try clear c2b0
   try clear c2b1
   try clear p2
   obtain ⟨x10_1, rfl, HA, HK1, HB⟩ := hrel
   cases gk with
   | zero => exact absurd HA.out (by simp [impl_AreArticles.l0])
   | succ k1 =>
    have H := HA.out
    clear HA
    simp only [impl_AreArticles.l0] at H
    by_cases c3 : x10_1 < (l0.length : Int)
    ·rw [if_pos c3] at H
     have c3b0 : decide (x10_1 < (l0.length : Int)) = true := jQ c3
     clear c3
     by_cases c4 : 0 ≤ x10_1
     ·rw [if_pos c4] at H
      have c4b0 : decide (0 ≤ x10_1) = true := jQ c4
      clear c4
      by_cases c5 : x10_1 < (l0.length : Int)
      ·rw [if_pos c5] at H
       have c5b0 : decide (x10_1 < (l0.length : Int)) = true := jQ c5
       clear c5
       replace H := jP.mp H
       obtain ⟨t213, A60, H⟩ := H
       replace H : (if t213 = true then (if x10_1 > 0 then (if 0 ≤ (wrap64 (x10_1 - 1)) then (if (wrap64 (x10_1 - 1)) < (l0.length : Int) then (if (Op.bytesLess (((rd_T65 l0 (wrap64 (x10_1 - 1))).f0).toList) (((rd_T65 l0 x10_1).f0).toList)) = true then (impl_AreArticles.l0 k1 l0 l0 (l0.length : Int) (wrap64 (x10_1 + 1))) else (some false)) else (none)) else (none)) else (impl_AreArticles.l0 k1 l0 l0 (l0.length : Int) (wrap64 (x10_1 + 1)))) else (some false)) = some r := H
       have A6 := jA A60
       clear A60
       by_cases c7 : t213 = true
       ·subst c7
        have H1 : (if x10_1 > 0 then (if 0 ≤ (wrap64 (x10_1 - 1)) then (if (wrap64 (x10_1 - 1)) < (l0.length : Int) then (if (Op.bytesLess (((rd_T65 l0 (wrap64 (x10_1 - 1))).f0).toList) (((rd_T65 l0 x10_1).f0).toList)) = true then (impl_AreArticles.l0 k1 l0 l0 (l0.length : Int) (wrap64 (x10_1 + 1))) else (some false)) else (none)) else (none)) else (impl_AreArticles.l0 k1 l0 l0 (l0.length : Int) (wrap64 (x10_1 + 1)))) = some r := by rw [if_pos rfl] at H; exact H
        clear H
        have H := H1
        clear H1
        by_cases c8 : x10_1 > 0
        ·rw [if_pos c8] at H
         have c8b0 : decide (0 < x10_1) = true := jQ c8
         clear c8
         obtain ⟨ji9, hji9⟩ : ∃ j_ : Int, (wrap64 (x10_1 - 1)) = j_ := ⟨_, rfl⟩
         replace H : (if 0 ≤ (ji9) then (if (ji9) < (l0.length : Int) then (if (Op.bytesLess (((rd_T65 l0 (ji9)).f0).toList) (((rd_T65 l0 x10_1).f0).toList)) = true then (impl_AreArticles.l0 k1 l0 l0 (l0.length : Int) (wrap64 (x10_1 + 1))) else (some false)) else (none)) else (none)) = some r := by first | (rw [hji9] at H; exact H) | (simp only [hji9] at H ⊢; exact H)
         (try rw [hji9] at A6)
         have hji9w : (IntKind.i64.wrap (x10_1 - 1)) = ji9 := (i64_w _).trans hji9
         by_cases c10 : 0 ≤ (ji9)
         ·rw [if_pos c10] at H
          have c10b0 : decide (0 ≤ (ji9)) = true := jQ c10
          clear c10
          by_cases c11 : (ji9) < (l0.length : Int)
          ·rw [if_pos c11] at H
           have c11b0 : decide ((ji9) < (l0.length : Int)) = true := jQ c11
           clear c11
           by_cases c12 : (Op.bytesLess (((rd_T65 l0 (ji9)).f0).toList) (((rd_T65 l0 x10_1).f0).toList)) = true
           ·rw [if_pos c12] at H
            have c12b0 : (Op.bytesLess (((rd_T65 l0 (ji9)).f0).toList) (((rd_T65 l0 x10_1).f0).toList)) = true := c12
            clear c12
            have H' := jA H
            clear H
            have p211 : 0 ≤ (x10_1 : Int) := jE za
            have q211 : x10_1 < (l0.length : Int) := jE za
            obtain ⟨ad211, e211, hx211_0, hx211_1, hx211_2, hx211_3, hx211_4, hx211_5, hx211_6, hx211_7, hx211_8⟩ := at_T65 HR0.out x10_1 p211 q211
            cases e211
            replace hx211_0 := (HB.out.cell (jB w _ hx211_0)).trans hx211_0
            replace hx211_1 := (HB.out.cell (jB w _ hx211_1)).trans hx211_1
            replace hx211_2 := (HB.out.cell (jB w _ hx211_2)).trans hx211_2
            replace hx211_3 := (HB.out.cell (jB w _ hx211_3)).trans hx211_3
            replace hx211_4 := (HB.out.cell (jB w _ hx211_4)).trans hx211_4
            replace hx211_5 := (HB.out.cell (jB w _ hx211_5)).trans hx211_5
            replace hx211_6 := (HB.out.cell (jB w _ hx211_6)).trans hx211_6
            replace hx211_7 := (HB.out.cell (jB w _ hx211_7)).trans hx211_7
            replace hx211_8 := (HB.out.cell (jB w _ hx211_8)).trans hx211_8
            replace p211 := eq_true p211
            replace q211 := eq_true q211
            try go_wp2_with (first | ((with_reducible refine jV (N := 4) rfl ?_); refine jU ?hg (N := 4) ?hd (cs := #[.string (⟨#[]⟩ : ByteArray), .int .i64 0, .int .i64 0, .int .i64 0, .int .i64 0, .int .i64 0, .int .i64 0, .int .i64 0, .int .i64 0]) (t := 65) ?hr ?_; (case hd => rfl); (case hg => rfl); (case hr => first | (go_simp; done) | (go_simp; rfl)); intro gb212 hg w13 hbox hb; have n0_ := jA (jJ (zb0 HB) hb); have n1_ := jA (hbox); have n2_ := jA ((by rw [hg]; exact (jF (zb0 HB)) : w.heap.size ≤ gb212)); have n3_ := jA ((by rw [hg]; exact (jF (zb0 HB)) : w.heap.size ≤ gb212)); clear HB; have HB := n0_; have BK212 := n1_; have GW212 := n2_; have GE212 := n3_; clear n0_ n1_ n2_ n3_; clear hb hbox hg; have hcz14_0 : w13.cell? ⟨gb212, 0, none⟩ = some (.string (⟨#[]⟩ : ByteArray)) := (jD BK212.out 0).trans rfl; have hcz14_1 : w13.cell? ⟨gb212, 1, none⟩ = some (.int .i64 0) := (jD BK212.out 1).trans rfl; have hcz14_2 : w13.cell? ⟨gb212, 2, none⟩ = some (.int .i64 0) := (jD BK212.out 2).trans rfl; have hcz14_3 : w13.cell? ⟨gb212, 3, none⟩ = some (.int .i64 0) := (jD BK212.out 3).trans rfl; have hcz14_4 : w13.cell? ⟨gb212, 4, none⟩ = some (.int .i64 0) := (jD BK212.out 4).trans rfl; have hcz14_5 : w13.cell? ⟨gb212, 5, none⟩ = some (.int .i64 0) := (jD BK212.out 5).trans rfl; have hcz14_6 : w13.cell? ⟨gb212, 6, none⟩ = some (.int .i64 0) := (jD BK212.out 6).trans rfl; have hcz14_7 : w13.cell? ⟨gb212, 7, none⟩ = some (.int .i64 0) := (jD BK212.out 7).trans rfl; have hcz14_8 : w13.cell? ⟨gb212, 8, none⟩ = some (.int .i64 0) := (jD BK212.out 8).trans rfl; have hfz14_0 := jC BK212.out 0; have hfz14_1 := jC BK212.out 1; have hfz14_2 := jC BK212.out 2; have hfz14_3 := jC BK212.out 3; have hfz14_4 := jC BK212.out 4; have hfz14_5 := jC BK212.out 5; have hfz14_6 := jC BK212.out 6; have hfz14_7 := jC BK212.out 7; have hfz14_8 := jC BK212.out 8))
            have n0_ : Aside0 ((((((((((w13.setCell ⟨gb212, 0, none⟩ (.string ((rd_T65 l0 x10_1).f0))).setCell ⟨gb212, 1, none⟩ (.int .i64 ((rd_T65 l0 x10_1).f1))).setCell ⟨gb212, 2, none⟩ (.int .i64 ((rd_T65 l0 x10_1).f2))).setCell ⟨gb212, 3, none⟩ (.int .i64 ((rd_T65 l0 x10_1).f3))).setCell ⟨gb212, 4, none⟩ (.int .i64 ((rd_T65 l0 x10_1).f4))).setCell ⟨gb212, 5, none⟩ (.int .i64 ((rd_T65 l0 x10_1).f5))).setCell ⟨gb212, 6, none⟩ (.int .i64 ((rd_T65 l0 x10_1).f6))).setCell ⟨gb212, 7, none⟩ (.int .i64 ((rd_T65 l0 x10_1).f7))).setCell ⟨gb212, 8, none⟩ (.int .i64 ((rd_T65 l0 x10_1).f8))).heap[gb212]? = some (.cells #[.string ((rd_T65 l0 x10_1).f0), .int .i64 ((rd_T65 l0 x10_1).f1), .int .i64 ((rd_T65 l0 x10_1).f2), .int .i64 ((rd_T65 l0 x10_1).f3), .int .i64 ((rd_T65 l0 x10_1).f4), .int .i64 ((rd_T65 l0 x10_1).f5), .int .i64 ((rd_T65 l0 x10_1).f6), .int .i64 ((rd_T65 l0 x10_1).f7), .int .i64 ((rd_T65 l0 x10_1).f8)] 65 (0, 0))) := ⟨by (with_reducible repeat (first | refine jG ?_ _ | refine jI ?_ | refine jH ?_ _)); refine jZ (cs := #[.string ((rd_T65 l0 x10_1).f0), .int .i64 ((rd_T65 l0 x10_1).f1), .int .i64 ((rd_T65 l0 x10_1).f2), .int .i64 ((rd_T65 l0 x10_1).f3), .int .i64 ((rd_T65 l0 x10_1).f4), .int .i64 ((rd_T65 l0 x10_1).f5), .int .i64 ((rd_T65 l0 x10_1).f6), .int .i64 ((rd_T65 l0 x10_1).f7), .int .i64 0]) ?_ 8 _ rfl; (with_reducible repeat (first | refine jG ?_ _ | refine jI ?_ | refine jH ?_ _)); refine jZ (cs := #[.string ((rd_T65 l0 x10_1).f0), .int .i64 ((rd_T65 l0 x10_1).f1), .int .i64 ((rd_T65 l0 x10_1).f2), .int .i64 ((rd_T65 l0 x10_1).f3), .int .i64 ((rd_T65 l0 x10_1).f4), .int .i64 ((rd_T65 l0 x10_1).f5), .int .i64 ((rd_T65 l0 x10_1).f6), .int .i64 0, .int .i64 0]) ?_ 7 _ rfl; (with_reducible repeat (first | refine jG ?_ _ | refine jI ?_ | refine jH ?_ _)); refine jZ (cs := #[.string ((rd_T65 l0 x10_1).f0), .int .i64 ((rd_T65 l0 x10_1).f1), .int .i64 ((rd_T65 l0 x10_1).f2), .int .i64 ((rd_T65 l0 x10_1).f3), .int .i64 ((rd_T65 l0 x10_1).f4), .int .i64 ((rd_T65 l0 x10_1).f5), .int .i64 0, .int .i64 0, .int .i64 0]) ?_ 6 _ rfl; (with_reducible repeat (first | refine jG ?_ _ | refine jI ?_ | refine jH ?_ _)); refine jZ (cs := #[.string ((rd_T65 l0 x10_1).f0), .int .i64 ((rd_T65 l0 x10_1).f1), .int .i64 ((rd_T65 l0 x10_1).f2), .int .i64 ((rd_T65 l0 x10_1).f3), .int .i64 ((rd_T65 l0 x10_1).f4), .int .i64 0, .int .i64 0, .int .i64 0, .int .i64 0]) ?_ 5 _ rfl; (with_reducible repeat (first | refine jG ?_ _ | refine jI ?_ | refine jH ?_ _)); refine jZ (cs := #[.string ((rd_T65 l0 x10_1).f0), .int .i64 ((rd_T65 l0 x10_1).f1), .int .i64 ((rd_T65 l0 x10_1).f2), .int .i64 ((rd_T65 l0 x10_1).f3), .int .i64 0, .int .i64 0, .int .i64 0, .int .i64 0, .int .i64 0]) ?_ 4 _ rfl; (with_reducible repeat (first | refine jG ?_ _ | refine jI ?_ | refine jH ?_ _)); refine jZ (cs := #[.string ((rd_T65 l0 x10_1).f0), .int .i64 ((rd_T65 l0 x10_1).f1), .int .i64 ((rd_T65 l0 x10_1).f2), .int .i64 0, .int .i64 0, .int .i64 0, .int .i64 0, .int .i64 0, .int .i64 0]) ?_ 3 _ rfl; (with_reducible repeat (first | refine jG ?_ _ | refine jI ?_ | refine jH ?_ _)); refine jZ (cs := #[.string ((rd_T65 l0 x10_1).f0), .int .i64 ((rd_T65 l0 x10_1).f1), .int .i64 0, .int .i64 0, .int .i64 0, .int .i64 0, .int .i64 0, .int .i64 0, .int .i64 0]) ?_ 2 _ rfl; (with_reducible repeat (first | refine jG ?_ _ | refine jI ?_ | refine jH ?_ _)); refine jZ (cs := #[.string ((rd_T65 l0 x10_1).f0), .int .i64 0, .int .i64 0, .int .i64 0, .int .i64 0, .int .i64 0, .int .i64 0, .int .i64 0, .int .i64 0]) ?_ 1 _ rfl; (with_reducible repeat (first | refine jG ?_ _ | refine jI ?_ | refine jH ?_ _)); refine jZ (cs := #[.string (⟨#[]⟩ : ByteArray), .int .i64 0, .int .i64 0, .int .i64 0, .int .i64 0, .int .i64 0, .int .i64 0, .int .i64 0, .int .i64 0]) ?_ 0 _ rfl; (with_reducible repeat (first | refine jG ?_ _ | refine jI ?_ | refine jH ?_ _)); exact BK212.out⟩
            have n1_ : Aside0 (Below w.heap.size w (((((((((w13.setCell ⟨gb212, 0, none⟩ (.string ((rd_T65 l0 x10_1).f0))).setCell ⟨gb212, 1, none⟩ (.int .i64 ((rd_T65 l0 x10_1).f1))).setCell ⟨gb212, 2, none⟩ (.int .i64 ((rd_T65 l0 x10_1).f2))).setCell ⟨gb212, 3, none⟩ (.int .i64 ((rd_T65 l0 x10_1).f3))).setCell ⟨gb212, 4, none⟩ (.int .i64 ((rd_T65 l0 x10_1).f4))).setCell ⟨gb212, 5, none⟩ (.int .i64 ((rd_T65 l0 x10_1).f5))).setCell ⟨gb212, 6, none⟩ (.int .i64 ((rd_T65 l0 x10_1).f6))).setCell ⟨gb212, 7, none⟩ (.int .i64 ((rd_T65 l0 x10_1).f7))).setCell ⟨gb212, 8, none⟩ (.int .i64 ((rd_T65 l0 x10_1).f8)))) := ⟨zb1 HB GE212⟩
            (try clear BK212)
            (try clear HB)
            generalize (((((((((w13.setCell ⟨gb212, 0, none⟩ (.string ((rd_T65 l0 x10_1).f0))).setCell ⟨gb212, 1, none⟩ (.int .i64 ((rd_T65 l0 x10_1).f1))).setCell ⟨gb212, 2, none⟩ (.int .i64 ((rd_T65 l0 x10_1).f2))).setCell ⟨gb212, 3, none⟩ (.int .i64 ((rd_T65 l0 x10_1).f3))).setCell ⟨gb212, 4, none⟩ (.int .i64 ((rd_T65 l0 x10_1).f4))).setCell ⟨gb212, 5, none⟩ (.int .i64 ((rd_T65 l0 x10_1).f5))).setCell ⟨gb212, 6, none⟩ (.int .i64 ((rd_T65 l0 x10_1).f6))).setCell ⟨gb212, 7, none⟩ (.int .i64 ((rd_T65 l0 x10_1).f7))).setCell ⟨gb212, 8, none⟩ (.int .i64 ((rd_T65 l0 x10_1).f8))) = w15 at n0_ n1_ ⊢
            have BK212 := n0_
            have HB := n1_
            clear n0_ n1_
            have n0_ := jA (jI BK212.out)
            have n1_ := jA (below_drew1 HB.out)
            clear BK212
            clear HB
            have BK212 := n0_
            have HB := n1_
            clear n0_ n1_
            have p214 : 0 ≤ ((ji9) : Int) := jE za
            have q214 : (ji9) < (l0.length : Int) := jE za
            obtain ⟨ad214, e214, hx214_0, hx214_1, hx214_2, hx214_3, hx214_4, hx214_5, hx214_6, hx214_7, hx214_8⟩ := at_T65 HR0.out (ji9) p214 q214
            clear hx214_1 hx214_2 hx214_3 hx214_4 hx214_5 hx214_6 hx214_7 hx214_8
            have hw214_0 := hx214_0
            obtain rfl : ad211 = ad214 := (by injection e214)
            replace hx214_0 := (HB.out.cell (jB w _ hx214_0)).trans hx214_0
            replace p214 := eq_true p214
            replace q214 := eq_true q214
            refine start_ (n := 18) (S := fun w' => w'.cell? ⟨gb212, 0, none⟩ = some (.string ((rd_T65 l0 x10_1).f0)) ∧ w'.cell? ⟨gb212, 1, none⟩ = some (.int .i64 ((rd_T65 l0 x10_1).f1)) ∧ w'.cell? ⟨gb212, 2, none⟩ = some (.int .i64 ((rd_T65 l0 x10_1).f2)) ∧ w'.cell? ⟨gb212, 3, none⟩ = some (.int .i64 ((rd_T65 l0 x10_1).f3)) ∧ w'.cell? ⟨gb212, 4, none⟩ = some (.int .i64 ((rd_T65 l0 x10_1).f4)) ∧ w'.cell? ⟨gb212, 5, none⟩ = some (.int .i64 ((rd_T65 l0 x10_1).f5)) ∧ w'.cell? ⟨gb212, 6, none⟩ = some (.int .i64 ((rd_T65 l0 x10_1).f6)) ∧ w'.cell? ⟨gb212, 7, none⟩ = some (.int .i64 ((rd_T65 l0 x10_1).f7)) ∧ w'.cell? ⟨gb212, 8, none⟩ = some (.int .i64 ((rd_T65 l0 x10_1).f8)) ∧ w'.cell? (ad211.add (((ji9)).toNat * 9)) = some (.string ((rd_T65 l0 (ji9)).f0))) (ds := []) m18_0 zr rfl rfl ⟨(jD BK212.out 0).trans rfl, (jD BK212.out 1).trans rfl, (jD BK212.out 2).trans rfl, (jD BK212.out 3).trans rfl, (jD BK212.out 4).trans rfl, (jD BK212.out 5).trans rfl, (jD BK212.out 6).trans rfl, (jD BK212.out 7).trans rfl, (jD BK212.out 8).trans rfl, ((HB.out.cell (jB w _ hw214_0)).trans hw214_0)⟩ (fun hHeld => ?_); refine with_tabW impl_AreArticles.tab6 impl_AreArticles.bits6 (fun HT_ HW_ => ?_)
            generalize w15.drew = w16 at BK212 HB hx214_0 hHeld ⊢
            refine zt10 HT_ HW_ hHeld 0 15 m18_20000 ?_
            refine one_ (i := 1) (N := some 16) m18_30000 rfl rfl (one_of HT_.out zr) (by decide) (fun K hK => ?_)
            refine goes_ Try.func84 zr rfl #[.agg #[.string ((rd_T65 l0 x10_1).f0), .int .i64 ((rd_T65 l0 x10_1).f1), .int .i64 ((rd_T65 l0 x10_1).f2), .int .i64 ((rd_T65 l0 x10_1).f3), .int .i64 ((rd_T65 l0 x10_1).f4), .int .i64 ((rd_T65 l0 x10_1).f5), .int .i64 ((rd_T65 l0 x10_1).f6), .int .i64 ((rd_T65 l0 x10_1).f7), .int .i64 ((rd_T65 l0 x10_1).f8)]] (by rfl) rfl rfl zm ?_
            with_reducible refine (impl_IsArticle.calls k1 ((rd_T65 l0 x10_1).f0) ((rd_T65 l0 x10_1).f1) ((rd_T65 l0 x10_1).f2) ((rd_T65 l0 x10_1).f3) ((rd_T65 l0 x10_1).f4) ((rd_T65 l0 x10_1).f5) ((rd_T65 l0 x10_1).f6) ((rd_T65 l0 x10_1).f7) ((rd_T65 l0 x10_1).f8) true _ A6.out).mono ?_
            rintro e w17 ⟨rfl, hb⟩
            refine ⟨_, rfl, ?_⟩
            have n0_ := jA (jO (g := gb212) (o := .cells #[.string ((rd_T65 l0 x10_1).f0), .int .i64 ((rd_T65 l0 x10_1).f1), .int .i64 ((rd_T65 l0 x10_1).f2), .int .i64 ((rd_T65 l0 x10_1).f3), .int .i64 ((rd_T65 l0 x10_1).f4), .int .i64 ((rd_T65 l0 x10_1).f5), .int .i64 ((rd_T65 l0 x10_1).f6), .int .i64 ((rd_T65 l0 x10_1).f7), .int .i64 ((rd_T65 l0 x10_1).f8)] 65 (0, 0)) (zk BK212) hb)
            have n1_ := jA (jJ (zb1 HB GE212) hb)
            clear BK212
            clear HB
            have BK212 := n0_
            have HB := n1_
            clear n0_ n1_
            (try clear hb)
            (try clear hb2)
            (try clear hk)
            (try clear hi)
            refine hK.out _ _ ⟨(jD BK212.out 0).trans rfl, (jD BK212.out 1).trans rfl, (jD BK212.out 2).trans rfl, (jD BK212.out 3).trans rfl, (jD BK212.out 4).trans rfl, (jD BK212.out 5).trans rfl, (jD BK212.out 6).trans rfl, (jD BK212.out 7).trans rfl, (jD BK212.out 8).trans rfl, ((HB.out.cell (jB w _ hw214_0)).trans hw214_0)⟩ (fun hHeld => ?_)
            clear hK K
            refine norm_ (a' := ?_) ?_ ?_
            rotate_left
            ·show Act.put _ (some 16) _ = _
             simp only [Act.put, jL, jS, jT, i64_w, i32_w]
             rfl
            refine zp HT_ 2 17 m18_38000 ?_
            refine zp HT_ 3 18 m18_3c000 ?_
            refine zp HT_ 4 19 m18_3e000 ?_
            refine zp HT_ 5 20 m18_3f000 ?_
            refine zp HT_ 6 21 m18_3f800 ?_
            refine zp HT_ 7 22 m18_3fc00 ?_
            refine zp HT_ 8 23 m18_3fe00 ?_
            refine zp HT_ 9 24 m18_3ff00 ?_
            refine zp HT_ 10 25 m18_3ff80 ?_
            refine zp HT_ 11 26 m18_3ffc0 ?_
            refine zp HT_ 13 28 m18_3ffd0 ?_
            refine zt10 HT_ HW_ hHeld 12 27 m18_3fff0 ?_
            refine zt10 HT_ HW_ hHeld 14 29 m18_3fff8 ?_
            refine zp HT_ 15 30 m18_3fffc ?_
            refine zp HT_ 16 31 m18_3fffe ?_
            refine zp HT_ 17 32 m18_3ffff ?_
            refine done_ (done_of HT_.out zr) ?_
            try go_wp2
            go_roundg k1
            case measure => have := HK1.out; omega
            case rel => exact ⟨(wrap64 (x10_1 + 1)), zz, H', ⟨by have := HK1.out; omega⟩, ⟨zb1 HB GE212⟩⟩
           ·rw [if_neg c12] at H
            have c12b0 : (Op.bytesLess (((rd_T65 l0 (ji9)).f0).toList) (((rd_T65 l0 x10_1).f0).toList)) = false := by simpa using c12
            clear c12
            obtain rfl := jM H
            have p211 : 0 ≤ (x10_1 : Int) := jE za
            have q211 : x10_1 < (l0.length : Int) := jE za
            obtain ⟨ad211, e211, hx211_0, hx211_1, hx211_2, hx211_3, hx211_4, hx211_5, hx211_6, hx211_7, hx211_8⟩ := at_T65 HR0.out x10_1 p211 q211
            cases e211
            replace hx211_0 := (HB.out.cell (jB w _ hx211_0)).trans hx211_0
            replace hx211_1 := (HB.out.cell (jB w _ hx211_1)).trans hx211_1
            replace hx211_2 := (HB.out.cell (jB w _ hx211_2)).trans hx211_2
            replace hx211_3 := (HB.out.cell (jB w _ hx211_3)).trans hx211_3
            replace hx211_4 := (HB.out.cell (jB w _ hx211_4)).trans hx211_4
            replace hx211_5 := (HB.out.cell (jB w _ hx211_5)).trans hx211_5
            replace hx211_6 := (HB.out.cell (jB w _ hx211_6)).trans hx211_6
            replace hx211_7 := (HB.out.cell (jB w _ hx211_7)).trans hx211_7
            replace hx211_8 := (HB.out.cell (jB w _ hx211_8)).trans hx211_8
            replace p211 := eq_true p211
            replace q211 := eq_true q211
            try go_wp2_with (first | ((with_reducible refine jV (N := 4) rfl ?_); refine jU ?hg (N := 4) ?hd (cs := #[.string (⟨#[]⟩ : ByteArray), .int .i64 0, .int .i64 0, .int .i64 0, .int .i64 0, .int .i64 0, .int .i64 0, .int .i64 0, .int .i64 0]) (t := 65) ?hr ?_; (case hd => rfl); (case hg => rfl); (case hr => first | (go_simp; done) | (go_simp; rfl)); intro gb212 hg w18 hbox hb; have n0_ := jA (jJ (zb0 HB) hb); have n1_ := jA (hbox); have n2_ := jA ((by rw [hg]; exact (jF (zb0 HB)) : w.heap.size ≤ gb212)); have n3_ := jA ((by rw [hg]; exact (jF (zb0 HB)) : w.heap.size ≤ gb212)); clear HB; have HB := n0_; have BK212 := n1_; have GW212 := n2_; have GE212 := n3_; clear n0_ n1_ n2_ n3_; clear hb hbox hg; have hcz19_0 : w18.cell? ⟨gb212, 0, none⟩ = some (.string (⟨#[]⟩ : ByteArray)) := (jD BK212.out 0).trans rfl; have hcz19_1 : w18.cell? ⟨gb212, 1, none⟩ = some (.int .i64 0) := (jD BK212.out 1).trans rfl; have hcz19_2 : w18.cell? ⟨gb212, 2, none⟩ = some (.int .i64 0) := (jD BK212.out 2).trans rfl; have hcz19_3 : w18.cell? ⟨gb212, 3, none⟩ = some (.int .i64 0) := (jD BK212.out 3).trans rfl; have hcz19_4 : w18.cell? ⟨gb212, 4, none⟩ = some (.int .i64 0) := (jD BK212.out 4).trans rfl; have hcz19_5 : w18.cell? ⟨gb212, 5, none⟩ = some (.int .i64 0) := (jD BK212.out 5).trans rfl; have hcz19_6 : w18.cell? ⟨gb212, 6, none⟩ = some (.int .i64 0) := (jD BK212.out 6).trans rfl; have hcz19_7 : w18.cell? ⟨gb212, 7, none⟩ = some (.int .i64 0) := (jD BK212.out 7).trans rfl; have hcz19_8 : w18.cell? ⟨gb212, 8, none⟩ = some (.int .i64 0) := (jD BK212.out 8).trans rfl; have hfz19_0 := jC BK212.out 0; have hfz19_1 := jC BK212.out 1; have hfz19_2 := jC BK212.out 2; have hfz19_3 := jC BK212.out 3; have hfz19_4 := jC BK212.out 4; have hfz19_5 := jC BK212.out 5; have hfz19_6 := jC BK212.out 6; have hfz19_7 := jC BK212.out 7; have hfz19_8 := jC BK212.out 8))
            have n0_ : Aside0 ((((((((((w18.setCell ⟨gb212, 0, none⟩ (.string ((rd_T65 l0 x10_1).f0))).setCell ⟨gb212, 1, none⟩ (.int .i64 ((rd_T65 l0 x10_1).f1))).setCell ⟨gb212, 2, none⟩ (.int .i64 ((rd_T65 l0 x10_1).f2))).setCell ⟨gb212, 3, none⟩ (.int .i64 ((rd_T65 l0 x10_1).f3))).setCell ⟨gb212, 4, none⟩ (.int .i64 ((rd_T65 l0 x10_1).f4))).setCell ⟨gb212, 5, none⟩ (.int .i64 ((rd_T65 l0 x10_1).f5))).setCell ⟨gb212, 6, none⟩ (.int .i64 ((rd_T65 l0 x10_1).f6))).setCell ⟨gb212, 7, none⟩ (.int .i64 ((rd_T65 l0 x10_1).f7))).setCell ⟨gb212, 8, none⟩ (.int .i64 ((rd_T65 l0 x10_1).f8))).heap[gb212]? = some (.cells #[.string ((rd_T65 l0 x10_1).f0), .int .i64 ((rd_T65 l0 x10_1).f1), .int .i64 ((rd_T65 l0 x10_1).f2), .int .i64 ((rd_T65 l0 x10_1).f3), .int .i64 ((rd_T65 l0 x10_1).f4), .int .i64 ((rd_T65 l0 x10_1).f5), .int .i64 ((rd_T65 l0 x10_1).f6), .int .i64 ((rd_T65 l0 x10_1).f7), .int .i64 ((rd_T65 l0 x10_1).f8)] 65 (0, 0))) := ⟨by (with_reducible repeat (first | refine jG ?_ _ | refine jI ?_ | refine jH ?_ _)); refine jZ (cs := #[.string ((rd_T65 l0 x10_1).f0), .int .i64 ((rd_T65 l0 x10_1).f1), .int .i64 ((rd_T65 l0 x10_1).f2), .int .i64 ((rd_T65 l0 x10_1).f3), .int .i64 ((rd_T65 l0 x10_1).f4), .int .i64 ((rd_T65 l0 x10_1).f5), .int .i64 ((rd_T65 l0 x10_1).f6), .int .i64 ((rd_T65 l0 x10_1).f7), .int .i64 0]) ?_ 8 _ rfl; (with_reducible repeat (first | refine jG ?_ _ | refine jI ?_ | refine jH ?_ _)); refine jZ (cs := #[.string ((rd_T65 l0 x10_1).f0), .int .i64 ((rd_T65 l0 x10_1).f1), .int .i64 ((rd_T65 l0 x10_1).f2), .int .i64 ((rd_T65 l0 x10_1).f3), .int .i64 ((rd_T65 l0 x10_1).f4), .int .i64 ((rd_T65 l0 x10_1).f5), .int .i64 ((rd_T65 l0 x10_1).f6), .int .i64 0, .int .i64 0]) ?_ 7 _ rfl; (with_reducible repeat (first | refine jG ?_ _ | refine jI ?_ | refine jH ?_ _)); refine jZ (cs := #[.string ((rd_T65 l0 x10_1).f0), .int .i64 ((rd_T65 l0 x10_1).f1), .int .i64 ((rd_T65 l0 x10_1).f2), .int .i64 ((rd_T65 l0 x10_1).f3), .int .i64 ((rd_T65 l0 x10_1).f4), .int .i64 ((rd_T65 l0 x10_1).f5), .int .i64 0, .int .i64 0, .int .i64 0]) ?_ 6 _ rfl; (with_reducible repeat (first | refine jG ?_ _ | refine jI ?_ | refine jH ?_ _)); refine jZ (cs := #[.string ((rd_T65 l0 x10_1).f0), .int .i64 ((rd_T65 l0 x10_1).f1), .int .i64 ((rd_T65 l0 x10_1).f2), .int .i64 ((rd_T65 l0 x10_1).f3), .int .i64 ((rd_T65 l0 x10_1).f4), .int .i64 0, .int .i64 0, .int .i64 0, .int .i64 0]) ?_ 5 _ rfl; (with_reducible repeat (first | refine jG ?_ _ | refine jI ?_ | refine jH ?_ _)); refine jZ (cs := #[.string ((rd_T65 l0 x10_1).f0), .int .i64 ((rd_T65 l0 x10_1).f1), .int .i64 ((rd_T65 l0 x10_1).f2), .int .i64 ((rd_T65 l0 x10_1).f3), .int .i64 0, .int .i64 0, .int .i64 0, .int .i64 0, .int .i64 0]) ?_ 4 _ rfl; (with_reducible repeat (first | refine jG ?_ _ | refine jI ?_ | refine jH ?_ _)); refine jZ (cs := #[.string ((rd_T65 l0 x10_1).f0), .int .i64 ((rd_T65 l0 x10_1).f1), .int .i64 ((rd_T65 l0 x10_1).f2), .int .i64 0, .int .i64 0, .int .i64 0, .int .i64 0, .int .i64 0, .int .i64 0]) ?_ 3 _ rfl; (with_reducible repeat (first | refine jG ?_ _ | refine jI ?_ | refine jH ?_ _)); refine jZ (cs := #[.string ((rd_T65 l0 x10_1).f0), .int .i64 ((rd_T65 l0 x10_1).f1), .int .i64 0, .int .i64 0, .int .i64 0, .int .i64 0, .int .i64 0, .int .i64 0, .int .i64 0]) ?_ 2 _ rfl; (with_reducible repeat (first | refine jG ?_ _ | refine jI ?_ | refine jH ?_ _)); refine jZ (cs := #[.string ((rd_T65 l0 x10_1).f0), .int .i64 0, .int .i64 0, .int .i64 0, .int .i64 0, .int .i64 0, .int .i64 0, .int .i64 0, .int .i64 0]) ?_ 1 _ rfl; (with_reducible repeat (first | refine jG ?_ _ | refine jI ?_ | refine jH ?_ _)); refine jZ (cs := #[.string (⟨#[]⟩ : ByteArray), .int .i64 0, .int .i64 0, .int .i64 0, .int .i64 0, .int .i64 0, .int .i64 0, .int .i64 0, .int .i64 0]) ?_ 0 _ rfl; (with_reducible repeat (first | refine jG ?_ _ | refine jI ?_ | refine jH ?_ _)); exact BK212.out⟩
            have n1_ : Aside0 (Below w.heap.size w (((((((((w18.setCell ⟨gb212, 0, none⟩ (.string ((rd_T65 l0 x10_1).f0))).setCell ⟨gb212, 1, none⟩ (.int .i64 ((rd_T65 l0 x10_1).f1))).setCell ⟨gb212, 2, none⟩ (.int .i64 ((rd_T65 l0 x10_1).f2))).setCell ⟨gb212, 3, none⟩ (.int .i64 ((rd_T65 l0 x10_1).f3))).setCell ⟨gb212, 4, none⟩ (.int .i64 ((rd_T65 l0 x10_1).f4))).setCell ⟨gb212, 5, none⟩ (.int .i64 ((rd_T65 l0 x10_1).f5))).setCell ⟨gb212, 6, none⟩ (.int .i64 ((rd_T65 l0 x10_1).f6))).setCell ⟨gb212, 7, none⟩ (.int .i64 ((rd_T65 l0 x10_1).f7))).setCell ⟨gb212, 8, none⟩ (.int .i64 ((rd_T65 l0 x10_1).f8)))) := ⟨zb1 HB GE212⟩
            (try clear BK212)
            (try clear HB)
            generalize (((((((((w18.setCell ⟨gb212, 0, none⟩ (.string ((rd_T65 l0 x10_1).f0))).setCell ⟨gb212, 1, none⟩ (.int .i64 ((rd_T65 l0 x10_1).f1))).setCell ⟨gb212, 2, none⟩ (.int .i64 ((rd_T65 l0 x10_1).f2))).setCell ⟨gb212, 3, none⟩ (.int .i64 ((rd_T65 l0 x10_1).f3))).setCell ⟨gb212, 4, none⟩ (.int .i64 ((rd_T65 l0 x10_1).f4))).setCell ⟨gb212, 5, none⟩ (.int .i64 ((rd_T65 l0 x10_1).f5))).setCell ⟨gb212, 6, none⟩ (.int .i64 ((rd_T65 l0 x10_1).f6))).setCell ⟨gb212, 7, none⟩ (.int .i64 ((rd_T65 l0 x10_1).f7))).setCell ⟨gb212, 8, none⟩ (.int .i64 ((rd_T65 l0 x10_1).f8))) = w20 at n0_ n1_ ⊢
            have BK212 := n0_
            have HB := n1_
            clear n0_ n1_
            have n0_ := jA (jI BK212.out)
            have n1_ := jA (below_drew1 HB.out)
            clear BK212
            clear HB
            have BK212 := n0_
            have HB := n1_
            clear n0_ n1_
            have p214 : 0 ≤ ((ji9) : Int) := jE za
            have q214 : (ji9) < (l0.length : Int) := jE za
            obtain ⟨ad214, e214, hx214_0, hx214_1, hx214_2, hx214_3, hx214_4, hx214_5, hx214_6, hx214_7, hx214_8⟩ := at_T65 HR0.out (ji9) p214 q214
            clear hx214_1 hx214_2 hx214_3 hx214_4 hx214_5 hx214_6 hx214_7 hx214_8
            have hw214_0 := hx214_0
            obtain rfl : ad211 = ad214 := (by injection e214)
            replace hx214_0 := (HB.out.cell (jB w _ hx214_0)).trans hx214_0
            replace p214 := eq_true p214
            replace q214 := eq_true q214
            refine start_ (n := 18) (S := fun w' => w'.cell? ⟨gb212, 0, none⟩ = some (.string ((rd_T65 l0 x10_1).f0)) ∧ w'.cell? ⟨gb212, 1, none⟩ = some (.int .i64 ((rd_T65 l0 x10_1).f1)) ∧ w'.cell? ⟨gb212, 2, none⟩ = some (.int .i64 ((rd_T65 l0 x10_1).f2)) ∧ w'.cell? ⟨gb212, 3, none⟩ = some (.int .i64 ((rd_T65 l0 x10_1).f3)) ∧ w'.cell? ⟨gb212, 4, none⟩ = some (.int .i64 ((rd_T65 l0 x10_1).f4)) ∧ w'.cell? ⟨gb212, 5, none⟩ = some (.int .i64 ((rd_T65 l0 x10_1).f5)) ∧ w'.cell? ⟨gb212, 6, none⟩ = some (.int .i64 ((rd_T65 l0 x10_1).f6)) ∧ w'.cell? ⟨gb212, 7, none⟩ = some (.int .i64 ((rd_T65 l0 x10_1).f7)) ∧ w'.cell? ⟨gb212, 8, none⟩ = some (.int .i64 ((rd_T65 l0 x10_1).f8)) ∧ w'.cell? (ad211.add (((ji9)).toNat * 9)) = some (.string ((rd_T65 l0 (ji9)).f0))) (ds := []) m18_0 zr rfl rfl ⟨(jD BK212.out 0).trans rfl, (jD BK212.out 1).trans rfl, (jD BK212.out 2).trans rfl, (jD BK212.out 3).trans rfl, (jD BK212.out 4).trans rfl, (jD BK212.out 5).trans rfl, (jD BK212.out 6).trans rfl, (jD BK212.out 7).trans rfl, (jD BK212.out 8).trans rfl, ((HB.out.cell (jB w _ hw214_0)).trans hw214_0)⟩ (fun hHeld => ?_); refine with_tabW impl_AreArticles.tab6 impl_AreArticles.bits6 (fun HT_ HW_ => ?_)
            generalize w20.drew = w21 at BK212 HB hx214_0 hHeld ⊢
            refine zt10 HT_ HW_ hHeld 0 15 m18_20000 ?_
            refine one_ (i := 1) (N := some 16) m18_30000 rfl rfl (one_of HT_.out zr) (by decide) (fun K hK => ?_)
            refine goes_ Try.func84 zr rfl #[.agg #[.string ((rd_T65 l0 x10_1).f0), .int .i64 ((rd_T65 l0 x10_1).f1), .int .i64 ((rd_T65 l0 x10_1).f2), .int .i64 ((rd_T65 l0 x10_1).f3), .int .i64 ((rd_T65 l0 x10_1).f4), .int .i64 ((rd_T65 l0 x10_1).f5), .int .i64 ((rd_T65 l0 x10_1).f6), .int .i64 ((rd_T65 l0 x10_1).f7), .int .i64 ((rd_T65 l0 x10_1).f8)]] (by rfl) rfl rfl zm ?_
            with_reducible refine (impl_IsArticle.calls k1 ((rd_T65 l0 x10_1).f0) ((rd_T65 l0 x10_1).f1) ((rd_T65 l0 x10_1).f2) ((rd_T65 l0 x10_1).f3) ((rd_T65 l0 x10_1).f4) ((rd_T65 l0 x10_1).f5) ((rd_T65 l0 x10_1).f6) ((rd_T65 l0 x10_1).f7) ((rd_T65 l0 x10_1).f8) true _ A6.out).mono ?_
            rintro e w22 ⟨rfl, hb⟩
            refine ⟨_, rfl, ?_⟩
            have n0_ := jA (jO (g := gb212) (o := .cells #[.string ((rd_T65 l0 x10_1).f0), .int .i64 ((rd_T65 l0 x10_1).f1), .int .i64 ((rd_T65 l0 x10_1).f2), .int .i64 ((rd_T65 l0 x10_1).f3), .int .i64 ((rd_T65 l0 x10_1).f4), .int .i64 ((rd_T65 l0 x10_1).f5), .int .i64 ((rd_T65 l0 x10_1).f6), .int .i64 ((rd_T65 l0 x10_1).f7), .int .i64 ((rd_T65 l0 x10_1).f8)] 65 (0, 0)) (zk BK212) hb)
            have n1_ := jA (jJ (zb1 HB GE212) hb)
            clear BK212
            clear HB
            have BK212 := n0_
            have HB := n1_
            clear n0_ n1_
            (try clear hb)
            (try clear hb2)
            (try clear hk)
            (try clear hi)
            refine hK.out _ _ ⟨(jD BK212.out 0).trans rfl, (jD BK212.out 1).trans rfl, (jD BK212.out 2).trans rfl, (jD BK212.out 3).trans rfl, (jD BK212.out 4).trans rfl, (jD BK212.out 5).trans rfl, (jD BK212.out 6).trans rfl, (jD BK212.out 7).trans rfl, (jD BK212.out 8).trans rfl, ((HB.out.cell (jB w _ hw214_0)).trans hw214_0)⟩ (fun hHeld => ?_)
            clear hK K
            refine norm_ (a' := ?_) ?_ ?_
            rotate_left
            ·show Act.put _ (some 16) _ = _
             simp only [Act.put, jL, jS, jT, i64_w, i32_w]
             rfl
            refine zp HT_ 2 17 m18_38000 ?_
            refine zp HT_ 3 18 m18_3c000 ?_
            refine zp HT_ 4 19 m18_3e000 ?_
            refine zp HT_ 5 20 m18_3f000 ?_
            refine zp HT_ 6 21 m18_3f800 ?_
            refine zp HT_ 7 22 m18_3fc00 ?_
            refine zp HT_ 8 23 m18_3fe00 ?_
            refine zp HT_ 9 24 m18_3ff00 ?_
            refine zp HT_ 10 25 m18_3ff80 ?_
            refine zp HT_ 11 26 m18_3ffc0 ?_
            refine zp HT_ 13 28 m18_3ffd0 ?_
            refine zt10 HT_ HW_ hHeld 12 27 m18_3fff0 ?_
            refine zt10 HT_ HW_ hHeld 14 29 m18_3fff8 ?_
            refine zp HT_ 15 30 m18_3fffc ?_
            refine zp HT_ 16 31 m18_3fffe ?_
            refine zp HT_ 17 32 m18_3ffff ?_
            refine done_ (done_of HT_.out zr) ?_
            try go_wp2
            go_ret
            exact ⟨by first | rfl | (simp [errW_none, errW_some] <;> rfl) | (simp only [← hji9]; first | rfl | (simp [errW_none, errW_some] <;> rfl)) | (simp [*, errW_none, errW_some] <;> rfl), zb1 HB GE212⟩
          ·rw [if_neg c11] at H
           exact absurd H (by simp)
         ·rw [if_neg c10] at H
          exact absurd H (by simp)
        ·rw [if_neg c8] at H
         have c8b0 : decide (0 < x10_1) = false := jY c8
         clear c8
         have H' := jA H
         clear H
         have p211 : 0 ≤ (x10_1 : Int) := jE za
         have q211 : x10_1 < (l0.length : Int) := jE za
         obtain ⟨ad211, e211, hx211_0, hx211_1, hx211_2, hx211_3, hx211_4, hx211_5, hx211_6, hx211_7, hx211_8⟩ := at_T65 HR0.out x10_1 p211 q211
         cases e211
         replace hx211_0 := (HB.out.cell (jB w _ hx211_0)).trans hx211_0
         replace hx211_1 := (HB.out.cell (jB w _ hx211_1)).trans hx211_1
         replace hx211_2 := (HB.out.cell (jB w _ hx211_2)).trans hx211_2
         replace hx211_3 := (HB.out.cell (jB w _ hx211_3)).trans hx211_3
         replace hx211_4 := (HB.out.cell (jB w _ hx211_4)).trans hx211_4
         replace hx211_5 := (HB.out.cell (jB w _ hx211_5)).trans hx211_5
         replace hx211_6 := (HB.out.cell (jB w _ hx211_6)).trans hx211_6
         replace hx211_7 := (HB.out.cell (jB w _ hx211_7)).trans hx211_7
         replace hx211_8 := (HB.out.cell (jB w _ hx211_8)).trans hx211_8
         replace p211 := eq_true p211
         replace q211 := eq_true q211
         try go_wp2_with (first | ((with_reducible refine jV (N := 4) rfl ?_); refine jU ?hg (N := 4) ?hd (cs := #[.string (⟨#[]⟩ : ByteArray), .int .i64 0, .int .i64 0, .int .i64 0, .int .i64 0, .int .i64 0, .int .i64 0, .int .i64 0, .int .i64 0]) (t := 65) ?hr ?_; (case hd => rfl); (case hg => rfl); (case hr => first | (go_simp; done) | (go_simp; rfl)); intro gb212 hg w23 hbox hb; have n0_ := jA (jJ (zb0 HB) hb); have n1_ := jA (hbox); have n2_ := jA ((by rw [hg]; exact (jF (zb0 HB)) : w.heap.size ≤ gb212)); have n3_ := jA ((by rw [hg]; exact (jF (zb0 HB)) : w.heap.size ≤ gb212)); clear HB; have HB := n0_; have BK212 := n1_; have GW212 := n2_; have GE212 := n3_; clear n0_ n1_ n2_ n3_; clear hb hbox hg; have hcz24_0 : w23.cell? ⟨gb212, 0, none⟩ = some (.string (⟨#[]⟩ : ByteArray)) := (jD BK212.out 0).trans rfl; have hcz24_1 : w23.cell? ⟨gb212, 1, none⟩ = some (.int .i64 0) := (jD BK212.out 1).trans rfl; have hcz24_2 : w23.cell? ⟨gb212, 2, none⟩ = some (.int .i64 0) := (jD BK212.out 2).trans rfl; have hcz24_3 : w23.cell? ⟨gb212, 3, none⟩ = some (.int .i64 0) := (jD BK212.out 3).trans rfl; have hcz24_4 : w23.cell? ⟨gb212, 4, none⟩ = some (.int .i64 0) := (jD BK212.out 4).trans rfl; have hcz24_5 : w23.cell? ⟨gb212, 5, none⟩ = some (.int .i64 0) := (jD BK212.out 5).trans rfl; have hcz24_6 : w23.cell? ⟨gb212, 6, none⟩ = some (.int .i64 0) := (jD BK212.out 6).trans rfl; have hcz24_7 : w23.cell? ⟨gb212, 7, none⟩ = some (.int .i64 0) := (jD BK212.out 7).trans rfl; have hcz24_8 : w23.cell? ⟨gb212, 8, none⟩ = some (.int .i64 0) := (jD BK212.out 8).trans rfl; have hfz24_0 := jC BK212.out 0; have hfz24_1 := jC BK212.out 1; have hfz24_2 := jC BK212.out 2; have hfz24_3 := jC BK212.out 3; have hfz24_4 := jC BK212.out 4; have hfz24_5 := jC BK212.out 5; have hfz24_6 := jC BK212.out 6; have hfz24_7 := jC BK212.out 7; have hfz24_8 := jC BK212.out 8))
         have n0_ : Aside0 ((((((((((w23.setCell ⟨gb212, 0, none⟩ (.string ((rd_T65 l0 x10_1).f0))).setCell ⟨gb212, 1, none⟩ (.int .i64 ((rd_T65 l0 x10_1).f1))).setCell ⟨gb212, 2, none⟩ (.int .i64 ((rd_T65 l0 x10_1).f2))).setCell ⟨gb212, 3, none⟩ (.int .i64 ((rd_T65 l0 x10_1).f3))).setCell ⟨gb212, 4, none⟩ (.int .i64 ((rd_T65 l0 x10_1).f4))).setCell ⟨gb212, 5, none⟩ (.int .i64 ((rd_T65 l0 x10_1).f5))).setCell ⟨gb212, 6, none⟩ (.int .i64 ((rd_T65 l0 x10_1).f6))).setCell ⟨gb212, 7, none⟩ (.int .i64 ((rd_T65 l0 x10_1).f7))).setCell ⟨gb212, 8, none⟩ (.int .i64 ((rd_T65 l0 x10_1).f8))).heap[gb212]? = some (.cells #[.string ((rd_T65 l0 x10_1).f0), .int .i64 ((rd_T65 l0 x10_1).f1), .int .i64 ((rd_T65 l0 x10_1).f2), .int .i64 ((rd_T65 l0 x10_1).f3), .int .i64 ((rd_T65 l0 x10_1).f4), .int .i64 ((rd_T65 l0 x10_1).f5), .int .i64 ((rd_T65 l0 x10_1).f6), .int .i64 ((rd_T65 l0 x10_1).f7), .int .i64 ((rd_T65 l0 x10_1).f8)] 65 (0, 0))) := ⟨by (with_reducible repeat (first | refine jG ?_ _ | refine jI ?_ | refine jH ?_ _)); refine jZ (cs := #[.string ((rd_T65 l0 x10_1).f0), .int .i64 ((rd_T65 l0 x10_1).f1), .int .i64 ((rd_T65 l0 x10_1).f2), .int .i64 ((rd_T65 l0 x10_1).f3), .int .i64 ((rd_T65 l0 x10_1).f4), .int .i64 ((rd_T65 l0 x10_1).f5), .int .i64 ((rd_T65 l0 x10_1).f6), .int .i64 ((rd_T65 l0 x10_1).f7), .int .i64 0]) ?_ 8 _ rfl; (with_reducible repeat (first | refine jG ?_ _ | refine jI ?_ | refine jH ?_ _)); refine jZ (cs := #[.string ((rd_T65 l0 x10_1).f0), .int .i64 ((rd_T65 l0 x10_1).f1), .int .i64 ((rd_T65 l0 x10_1).f2), .int .i64 ((rd_T65 l0 x10_1).f3), .int .i64 ((rd_T65 l0 x10_1).f4), .int .i64 ((rd_T65 l0 x10_1).f5), .int .i64 ((rd_T65 l0 x10_1).f6), .int .i64 0, .int .i64 0]) ?_ 7 _ rfl; (with_reducible repeat (first | refine jG ?_ _ | refine jI ?_ | refine jH ?_ _)); refine jZ (cs := #[.string ((rd_T65 l0 x10_1).f0), .int .i64 ((rd_T65 l0 x10_1).f1), .int .i64 ((rd_T65 l0 x10_1).f2), .int .i64 ((rd_T65 l0 x10_1).f3), .int .i64 ((rd_T65 l0 x10_1).f4), .int .i64 ((rd_T65 l0 x10_1).f5), .int .i64 0, .int .i64 0, .int .i64 0]) ?_ 6 _ rfl; (with_reducible repeat (first | refine jG ?_ _ | refine jI ?_ | refine jH ?_ _)); refine jZ (cs := #[.string ((rd_T65 l0 x10_1).f0), .int .i64 ((rd_T65 l0 x10_1).f1), .int .i64 ((rd_T65 l0 x10_1).f2), .int .i64 ((rd_T65 l0 x10_1).f3), .int .i64 ((rd_T65 l0 x10_1).f4), .int .i64 0, .int .i64 0, .int .i64 0, .int .i64 0]) ?_ 5 _ rfl; (with_reducible repeat (first | refine jG ?_ _ | refine jI ?_ | refine jH ?_ _)); refine jZ (cs := #[.string ((rd_T65 l0 x10_1).f0), .int .i64 ((rd_T65 l0 x10_1).f1), .int .i64 ((rd_T65 l0 x10_1).f2), .int .i64 ((rd_T65 l0 x10_1).f3), .int .i64 0, .int .i64 0, .int .i64 0, .int .i64 0, .int .i64 0]) ?_ 4 _ rfl; (with_reducible repeat (first | refine jG ?_ _ | refine jI ?_ | refine jH ?_ _)); refine jZ (cs := #[.string ((rd_T65 l0 x10_1).f0), .int .i64 ((rd_T65 l0 x10_1).f1), .int .i64 ((rd_T65 l0 x10_1).f2), .int .i64 0, .int .i64 0, .int .i64 0, .int .i64 0, .int .i64 0, .int .i64 0]) ?_ 3 _ rfl; (with_reducible repeat (first | refine jG ?_ _ | refine jI ?_ | refine jH ?_ _)); refine jZ (cs := #[.string ((rd_T65 l0 x10_1).f0), .int .i64 ((rd_T65 l0 x10_1).f1), .int .i64 0, .int .i64 0, .int .i64 0, .int .i64 0, .int .i64 0, .int .i64 0, .int .i64 0]) ?_ 2 _ rfl; (with_reducible repeat (first | refine jG ?_ _ | refine jI ?_ | refine jH ?_ _)); refine jZ (cs := #[.string ((rd_T65 l0 x10_1).f0), .int .i64 0, .int .i64 0, .int .i64 0, .int .i64 0, .int .i64 0, .int .i64 0, .int .i64 0, .int .i64 0]) ?_ 1 _ rfl; (with_reducible repeat (first | refine jG ?_ _ | refine jI ?_ | refine jH ?_ _)); refine jZ (cs := #[.string (⟨#[]⟩ : ByteArray), .int .i64 0, .int .i64 0, .int .i64 0, .int .i64 0, .int .i64 0, .int .i64 0, .int .i64 0, .int .i64 0]) ?_ 0 _ rfl; (with_reducible repeat (first | refine jG ?_ _ | refine jI ?_ | refine jH ?_ _)); exact BK212.out⟩
         have n1_ : Aside0 (Below w.heap.size w (((((((((w23.setCell ⟨gb212, 0, none⟩ (.string ((rd_T65 l0 x10_1).f0))).setCell ⟨gb212, 1, none⟩ (.int .i64 ((rd_T65 l0 x10_1).f1))).setCell ⟨gb212, 2, none⟩ (.int .i64 ((rd_T65 l0 x10_1).f2))).setCell ⟨gb212, 3, none⟩ (.int .i64 ((rd_T65 l0 x10_1).f3))).setCell ⟨gb212, 4, none⟩ (.int .i64 ((rd_T65 l0 x10_1).f4))).setCell ⟨gb212, 5, none⟩ (.int .i64 ((rd_T65 l0 x10_1).f5))).setCell ⟨gb212, 6, none⟩ (.int .i64 ((rd_T65 l0 x10_1).f6))).setCell ⟨gb212, 7, none⟩ (.int .i64 ((rd_T65 l0 x10_1).f7))).setCell ⟨gb212, 8, none⟩ (.int .i64 ((rd_T65 l0 x10_1).f8)))) := ⟨zb1 HB GE212⟩
         (try clear BK212)
         (try clear HB)
         generalize (((((((((w23.setCell ⟨gb212, 0, none⟩ (.string ((rd_T65 l0 x10_1).f0))).setCell ⟨gb212, 1, none⟩ (.int .i64 ((rd_T65 l0 x10_1).f1))).setCell ⟨gb212, 2, none⟩ (.int .i64 ((rd_T65 l0 x10_1).f2))).setCell ⟨gb212, 3, none⟩ (.int .i64 ((rd_T65 l0 x10_1).f3))).setCell ⟨gb212, 4, none⟩ (.int .i64 ((rd_T65 l0 x10_1).f4))).setCell ⟨gb212, 5, none⟩ (.int .i64 ((rd_T65 l0 x10_1).f5))).setCell ⟨gb212, 6, none⟩ (.int .i64 ((rd_T65 l0 x10_1).f6))).setCell ⟨gb212, 7, none⟩ (.int .i64 ((rd_T65 l0 x10_1).f7))).setCell ⟨gb212, 8, none⟩ (.int .i64 ((rd_T65 l0 x10_1).f8))) = w25 at n0_ n1_ ⊢
         have BK212 := n0_
         have HB := n1_
         clear n0_ n1_
         have n0_ := jA (jI BK212.out)
         have n1_ := jA (below_drew1 HB.out)
         clear BK212
         clear HB
         have BK212 := n0_
         have HB := n1_
         clear n0_ n1_
         refine start_ (n := 18) (S := fun w' => w'.cell? ⟨gb212, 0, none⟩ = some (.string ((rd_T65 l0 x10_1).f0)) ∧ w'.cell? ⟨gb212, 1, none⟩ = some (.int .i64 ((rd_T65 l0 x10_1).f1)) ∧ w'.cell? ⟨gb212, 2, none⟩ = some (.int .i64 ((rd_T65 l0 x10_1).f2)) ∧ w'.cell? ⟨gb212, 3, none⟩ = some (.int .i64 ((rd_T65 l0 x10_1).f3)) ∧ w'.cell? ⟨gb212, 4, none⟩ = some (.int .i64 ((rd_T65 l0 x10_1).f4)) ∧ w'.cell? ⟨gb212, 5, none⟩ = some (.int .i64 ((rd_T65 l0 x10_1).f5)) ∧ w'.cell? ⟨gb212, 6, none⟩ = some (.int .i64 ((rd_T65 l0 x10_1).f6)) ∧ w'.cell? ⟨gb212, 7, none⟩ = some (.int .i64 ((rd_T65 l0 x10_1).f7)) ∧ w'.cell? ⟨gb212, 8, none⟩ = some (.int .i64 ((rd_T65 l0 x10_1).f8))) (ds := []) m18_0 zr rfl rfl ⟨(jD BK212.out 0).trans rfl, (jD BK212.out 1).trans rfl, (jD BK212.out 2).trans rfl, (jD BK212.out 3).trans rfl, (jD BK212.out 4).trans rfl, (jD BK212.out 5).trans rfl, (jD BK212.out 6).trans rfl, (jD BK212.out 7).trans rfl, (jD BK212.out 8).trans rfl⟩ (fun hHeld => ?_); refine with_tabW impl_AreArticles.tab6 impl_AreArticles.bits6 (fun HT_ HW_ => ?_)
         generalize w25.drew = w26 at BK212 HB hHeld ⊢
         refine zt9 HT_ HW_ hHeld 0 15 m18_20000 ?_
         refine one_ (i := 1) (N := some 16) m18_30000 rfl rfl (one_of HT_.out zr) (by decide) (fun K hK => ?_)
         refine goes_ Try.func84 zr rfl #[.agg #[.string ((rd_T65 l0 x10_1).f0), .int .i64 ((rd_T65 l0 x10_1).f1), .int .i64 ((rd_T65 l0 x10_1).f2), .int .i64 ((rd_T65 l0 x10_1).f3), .int .i64 ((rd_T65 l0 x10_1).f4), .int .i64 ((rd_T65 l0 x10_1).f5), .int .i64 ((rd_T65 l0 x10_1).f6), .int .i64 ((rd_T65 l0 x10_1).f7), .int .i64 ((rd_T65 l0 x10_1).f8)]] (by rfl) rfl rfl zm ?_
         with_reducible refine (impl_IsArticle.calls k1 ((rd_T65 l0 x10_1).f0) ((rd_T65 l0 x10_1).f1) ((rd_T65 l0 x10_1).f2) ((rd_T65 l0 x10_1).f3) ((rd_T65 l0 x10_1).f4) ((rd_T65 l0 x10_1).f5) ((rd_T65 l0 x10_1).f6) ((rd_T65 l0 x10_1).f7) ((rd_T65 l0 x10_1).f8) true _ A6.out).mono ?_
         rintro e w27 ⟨rfl, hb⟩
         refine ⟨_, rfl, ?_⟩
         have n0_ := jA (jO (g := gb212) (o := .cells #[.string ((rd_T65 l0 x10_1).f0), .int .i64 ((rd_T65 l0 x10_1).f1), .int .i64 ((rd_T65 l0 x10_1).f2), .int .i64 ((rd_T65 l0 x10_1).f3), .int .i64 ((rd_T65 l0 x10_1).f4), .int .i64 ((rd_T65 l0 x10_1).f5), .int .i64 ((rd_T65 l0 x10_1).f6), .int .i64 ((rd_T65 l0 x10_1).f7), .int .i64 ((rd_T65 l0 x10_1).f8)] 65 (0, 0)) (zk BK212) hb)
         have n1_ := jA (jJ (zb1 HB GE212) hb)
         clear BK212
         clear HB
         have BK212 := n0_
         have HB := n1_
         clear n0_ n1_
         (try clear hb)
         (try clear hb2)
         (try clear hk)
         (try clear hi)
         refine hK.out _ _ ⟨(jD BK212.out 0).trans rfl, (jD BK212.out 1).trans rfl, (jD BK212.out 2).trans rfl, (jD BK212.out 3).trans rfl, (jD BK212.out 4).trans rfl, (jD BK212.out 5).trans rfl, (jD BK212.out 6).trans rfl, (jD BK212.out 7).trans rfl, (jD BK212.out 8).trans rfl⟩ (fun hHeld => ?_)
         clear hK K
         refine norm_ (a' := ?_) ?_ ?_
         rotate_left
         ·show Act.put _ (some 16) _ = _
          simp only [Act.put, jL, jS, jT, i64_w, i32_w]
          rfl
         refine zp HT_ 2 17 m18_38000 ?_
         refine zp HT_ 3 18 m18_3c000 ?_
         refine zp HT_ 4 19 m18_3e000 ?_
         refine zp HT_ 5 20 m18_3f000 ?_
         refine zp HT_ 6 21 m18_3f800 ?_
         refine zq HT_ 7 22 m18_3fc00 ?_
         refine zq HT_ 8 23 m18_3fe00 ?_
         refine zq HT_ 9 24 m18_3ff00 ?_
         refine zq HT_ 10 25 m18_3ff80 ?_
         refine zq HT_ 11 26 m18_3ffc0 ?_
         refine zq HT_ 12 27 m18_3ffe0 ?_
         refine zq HT_ 13 28 m18_3fff0 ?_
         refine zq HT_ 14 29 m18_3fff8 ?_
         refine zq HT_ 15 30 m18_3fffc ?_
         refine zp HT_ 16 31 m18_3fffe ?_
         refine zp HT_ 17 32 m18_3ffff ?_
         refine done_ (done_of HT_.out zr) ?_
         try go_wp2
         go_roundg k1
         case measure => have := HK1.out; omega
         case rel => exact ⟨(wrap64 (x10_1 + 1)), zz, H', ⟨by have := HK1.out; omega⟩, ⟨zb1 HB GE212⟩⟩
       ·replace c7 := Bool.eq_false_iff.mpr c7
        subst c7
        have H1 : (some false) = some r := by rw [if_neg (show ¬ (false = true) by decide)] at H; exact H
        clear H
        have H := H1
        clear H1
        obtain rfl := jM H
        have p211 : 0 ≤ (x10_1 : Int) := jE za
        have q211 : x10_1 < (l0.length : Int) := jE za
        obtain ⟨ad211, e211, hx211_0, hx211_1, hx211_2, hx211_3, hx211_4, hx211_5, hx211_6, hx211_7, hx211_8⟩ := at_T65 HR0.out x10_1 p211 q211
        cases e211
        replace hx211_0 := (HB.out.cell (jB w _ hx211_0)).trans hx211_0
        replace hx211_1 := (HB.out.cell (jB w _ hx211_1)).trans hx211_1
        replace hx211_2 := (HB.out.cell (jB w _ hx211_2)).trans hx211_2
        replace hx211_3 := (HB.out.cell (jB w _ hx211_3)).trans hx211_3
        replace hx211_4 := (HB.out.cell (jB w _ hx211_4)).trans hx211_4
        replace hx211_5 := (HB.out.cell (jB w _ hx211_5)).trans hx211_5
        replace hx211_6 := (HB.out.cell (jB w _ hx211_6)).trans hx211_6
        replace hx211_7 := (HB.out.cell (jB w _ hx211_7)).trans hx211_7
        replace hx211_8 := (HB.out.cell (jB w _ hx211_8)).trans hx211_8
        replace p211 := eq_true p211
        replace q211 := eq_true q211
        try go_wp2_with (first | ((with_reducible refine jV (N := 4) rfl ?_); refine jU ?hg (N := 4) ?hd (cs := #[.string (⟨#[]⟩ : ByteArray), .int .i64 0, .int .i64 0, .int .i64 0, .int .i64 0, .int .i64 0, .int .i64 0, .int .i64 0, .int .i64 0]) (t := 65) ?hr ?_; (case hd => rfl); (case hg => rfl); (case hr => first | (go_simp; done) | (go_simp; rfl)); intro gb212 hg w28 hbox hb; have n0_ := jA (jJ (zb0 HB) hb); have n1_ := jA (hbox); have n2_ := jA ((by rw [hg]; exact (jF (zb0 HB)) : w.heap.size ≤ gb212)); have n3_ := jA ((by rw [hg]; exact (jF (zb0 HB)) : w.heap.size ≤ gb212)); clear HB; have HB := n0_; have BK212 := n1_; have GW212 := n2_; have GE212 := n3_; clear n0_ n1_ n2_ n3_; clear hb hbox hg; have hcz29_0 : w28.cell? ⟨gb212, 0, none⟩ = some (.string (⟨#[]⟩ : ByteArray)) := (jD BK212.out 0).trans rfl; have hcz29_1 : w28.cell? ⟨gb212, 1, none⟩ = some (.int .i64 0) := (jD BK212.out 1).trans rfl; have hcz29_2 : w28.cell? ⟨gb212, 2, none⟩ = some (.int .i64 0) := (jD BK212.out 2).trans rfl; have hcz29_3 : w28.cell? ⟨gb212, 3, none⟩ = some (.int .i64 0) := (jD BK212.out 3).trans rfl; have hcz29_4 : w28.cell? ⟨gb212, 4, none⟩ = some (.int .i64 0) := (jD BK212.out 4).trans rfl; have hcz29_5 : w28.cell? ⟨gb212, 5, none⟩ = some (.int .i64 0) := (jD BK212.out 5).trans rfl; have hcz29_6 : w28.cell? ⟨gb212, 6, none⟩ = some (.int .i64 0) := (jD BK212.out 6).trans rfl; have hcz29_7 : w28.cell? ⟨gb212, 7, none⟩ = some (.int .i64 0) := (jD BK212.out 7).trans rfl; have hcz29_8 : w28.cell? ⟨gb212, 8, none⟩ = some (.int .i64 0) := (jD BK212.out 8).trans rfl; have hfz29_0 := jC BK212.out 0; have hfz29_1 := jC BK212.out 1; have hfz29_2 := jC BK212.out 2; have hfz29_3 := jC BK212.out 3; have hfz29_4 := jC BK212.out 4; have hfz29_5 := jC BK212.out 5; have hfz29_6 := jC BK212.out 6; have hfz29_7 := jC BK212.out 7; have hfz29_8 := jC BK212.out 8))
        have n0_ : Aside0 ((((((((((w28.setCell ⟨gb212, 0, none⟩ (.string ((rd_T65 l0 x10_1).f0))).setCell ⟨gb212, 1, none⟩ (.int .i64 ((rd_T65 l0 x10_1).f1))).setCell ⟨gb212, 2, none⟩ (.int .i64 ((rd_T65 l0 x10_1).f2))).setCell ⟨gb212, 3, none⟩ (.int .i64 ((rd_T65 l0 x10_1).f3))).setCell ⟨gb212, 4, none⟩ (.int .i64 ((rd_T65 l0 x10_1).f4))).setCell ⟨gb212, 5, none⟩ (.int .i64 ((rd_T65 l0 x10_1).f5))).setCell ⟨gb212, 6, none⟩ (.int .i64 ((rd_T65 l0 x10_1).f6))).setCell ⟨gb212, 7, none⟩ (.int .i64 ((rd_T65 l0 x10_1).f7))).setCell ⟨gb212, 8, none⟩ (.int .i64 ((rd_T65 l0 x10_1).f8))).heap[gb212]? = some (.cells #[.string ((rd_T65 l0 x10_1).f0), .int .i64 ((rd_T65 l0 x10_1).f1), .int .i64 ((rd_T65 l0 x10_1).f2), .int .i64 ((rd_T65 l0 x10_1).f3), .int .i64 ((rd_T65 l0 x10_1).f4), .int .i64 ((rd_T65 l0 x10_1).f5), .int .i64 ((rd_T65 l0 x10_1).f6), .int .i64 ((rd_T65 l0 x10_1).f7), .int .i64 ((rd_T65 l0 x10_1).f8)] 65 (0, 0))) := ⟨by (with_reducible repeat (first | refine jG ?_ _ | refine jI ?_ | refine jH ?_ _)); refine jZ (cs := #[.string ((rd_T65 l0 x10_1).f0), .int .i64 ((rd_T65 l0 x10_1).f1), .int .i64 ((rd_T65 l0 x10_1).f2), .int .i64 ((rd_T65 l0 x10_1).f3), .int .i64 ((rd_T65 l0 x10_1).f4), .int .i64 ((rd_T65 l0 x10_1).f5), .int .i64 ((rd_T65 l0 x10_1).f6), .int .i64 ((rd_T65 l0 x10_1).f7), .int .i64 0]) ?_ 8 _ rfl; (with_reducible repeat (first | refine jG ?_ _ | refine jI ?_ | refine jH ?_ _)); refine jZ (cs := #[.string ((rd_T65 l0 x10_1).f0), .int .i64 ((rd_T65 l0 x10_1).f1), .int .i64 ((rd_T65 l0 x10_1).f2), .int .i64 ((rd_T65 l0 x10_1).f3), .int .i64 ((rd_T65 l0 x10_1).f4), .int .i64 ((rd_T65 l0 x10_1).f5), .int .i64 ((rd_T65 l0 x10_1).f6), .int .i64 0, .int .i64 0]) ?_ 7 _ rfl; (with_reducible repeat (first | refine jG ?_ _ | refine jI ?_ | refine jH ?_ _)); refine jZ (cs := #[.string ((rd_T65 l0 x10_1).f0), .int .i64 ((rd_T65 l0 x10_1).f1), .int .i64 ((rd_T65 l0 x10_1).f2), .int .i64 ((rd_T65 l0 x10_1).f3), .int .i64 ((rd_T65 l0 x10_1).f4), .int .i64 ((rd_T65 l0 x10_1).f5), .int .i64 0, .int .i64 0, .int .i64 0]) ?_ 6 _ rfl; (with_reducible repeat (first | refine jG ?_ _ | refine jI ?_ | refine jH ?_ _)); refine jZ (cs := #[.string ((rd_T65 l0 x10_1).f0), .int .i64 ((rd_T65 l0 x10_1).f1), .int .i64 ((rd_T65 l0 x10_1).f2), .int .i64 ((rd_T65 l0 x10_1).f3), .int .i64 ((rd_T65 l0 x10_1).f4), .int .i64 0, .int .i64 0, .int .i64 0, .int .i64 0]) ?_ 5 _ rfl; (with_reducible repeat (first | refine jG ?_ _ | refine jI ?_ | refine jH ?_ _)); refine jZ (cs := #[.string ((rd_T65 l0 x10_1).f0), .int .i64 ((rd_T65 l0 x10_1).f1), .int .i64 ((rd_T65 l0 x10_1).f2), .int .i64 ((rd_T65 l0 x10_1).f3), .int .i64 0, .int .i64 0, .int .i64 0, .int .i64 0, .int .i64 0]) ?_ 4 _ rfl; (with_reducible repeat (first | refine jG ?_ _ | refine jI ?_ | refine jH ?_ _)); refine jZ (cs := #[.string ((rd_T65 l0 x10_1).f0), .int .i64 ((rd_T65 l0 x10_1).f1), .int .i64 ((rd_T65 l0 x10_1).f2), .int .i64 0, .int .i64 0, .int .i64 0, .int .i64 0, .int .i64 0, .int .i64 0]) ?_ 3 _ rfl; (with_reducible repeat (first | refine jG ?_ _ | refine jI ?_ | refine jH ?_ _)); refine jZ (cs := #[.string ((rd_T65 l0 x10_1).f0), .int .i64 ((rd_T65 l0 x10_1).f1), .int .i64 0, .int .i64 0, .int .i64 0, .int .i64 0, .int .i64 0, .int .i64 0, .int .i64 0]) ?_ 2 _ rfl; (with_reducible repeat (first | refine jG ?_ _ | refine jI ?_ | refine jH ?_ _)); refine jZ (cs := #[.string ((rd_T65 l0 x10_1).f0), .int .i64 0, .int .i64 0, .int .i64 0, .int .i64 0, .int .i64 0, .int .i64 0, .int .i64 0, .int .i64 0]) ?_ 1 _ rfl; (with_reducible repeat (first | refine jG ?_ _ | refine jI ?_ | refine jH ?_ _)); refine jZ (cs := #[.string (⟨#[]⟩ : ByteArray), .int .i64 0, .int .i64 0, .int .i64 0, .int .i64 0, .int .i64 0, .int .i64 0, .int .i64 0, .int .i64 0]) ?_ 0 _ rfl; (with_reducible repeat (first | refine jG ?_ _ | refine jI ?_ | refine jH ?_ _)); exact BK212.out⟩
        have n1_ : Aside0 (Below w.heap.size w (((((((((w28.setCell ⟨gb212, 0, none⟩ (.string ((rd_T65 l0 x10_1).f0))).setCell ⟨gb212, 1, none⟩ (.int .i64 ((rd_T65 l0 x10_1).f1))).setCell ⟨gb212, 2, none⟩ (.int .i64 ((rd_T65 l0 x10_1).f2))).setCell ⟨gb212, 3, none⟩ (.int .i64 ((rd_T65 l0 x10_1).f3))).setCell ⟨gb212, 4, none⟩ (.int .i64 ((rd_T65 l0 x10_1).f4))).setCell ⟨gb212, 5, none⟩ (.int .i64 ((rd_T65 l0 x10_1).f5))).setCell ⟨gb212, 6, none⟩ (.int .i64 ((rd_T65 l0 x10_1).f6))).setCell ⟨gb212, 7, none⟩ (.int .i64 ((rd_T65 l0 x10_1).f7))).setCell ⟨gb212, 8, none⟩ (.int .i64 ((rd_T65 l0 x10_1).f8)))) := ⟨zb1 HB GE212⟩
        (try clear BK212)
        (try clear HB)
        generalize (((((((((w28.setCell ⟨gb212, 0, none⟩ (.string ((rd_T65 l0 x10_1).f0))).setCell ⟨gb212, 1, none⟩ (.int .i64 ((rd_T65 l0 x10_1).f1))).setCell ⟨gb212, 2, none⟩ (.int .i64 ((rd_T65 l0 x10_1).f2))).setCell ⟨gb212, 3, none⟩ (.int .i64 ((rd_T65 l0 x10_1).f3))).setCell ⟨gb212, 4, none⟩ (.int .i64 ((rd_T65 l0 x10_1).f4))).setCell ⟨gb212, 5, none⟩ (.int .i64 ((rd_T65 l0 x10_1).f5))).setCell ⟨gb212, 6, none⟩ (.int .i64 ((rd_T65 l0 x10_1).f6))).setCell ⟨gb212, 7, none⟩ (.int .i64 ((rd_T65 l0 x10_1).f7))).setCell ⟨gb212, 8, none⟩ (.int .i64 ((rd_T65 l0 x10_1).f8))) = w30 at n0_ n1_ ⊢
        have BK212 := n0_
        have HB := n1_
        clear n0_ n1_
        have n0_ := jA (jI BK212.out)
        have n1_ := jA (below_drew1 HB.out)
        clear BK212
        clear HB
        have BK212 := n0_
        have HB := n1_
        clear n0_ n1_
        refine start_ (n := 18) (S := fun w' => w'.cell? ⟨gb212, 0, none⟩ = some (.string ((rd_T65 l0 x10_1).f0)) ∧ w'.cell? ⟨gb212, 1, none⟩ = some (.int .i64 ((rd_T65 l0 x10_1).f1)) ∧ w'.cell? ⟨gb212, 2, none⟩ = some (.int .i64 ((rd_T65 l0 x10_1).f2)) ∧ w'.cell? ⟨gb212, 3, none⟩ = some (.int .i64 ((rd_T65 l0 x10_1).f3)) ∧ w'.cell? ⟨gb212, 4, none⟩ = some (.int .i64 ((rd_T65 l0 x10_1).f4)) ∧ w'.cell? ⟨gb212, 5, none⟩ = some (.int .i64 ((rd_T65 l0 x10_1).f5)) ∧ w'.cell? ⟨gb212, 6, none⟩ = some (.int .i64 ((rd_T65 l0 x10_1).f6)) ∧ w'.cell? ⟨gb212, 7, none⟩ = some (.int .i64 ((rd_T65 l0 x10_1).f7)) ∧ w'.cell? ⟨gb212, 8, none⟩ = some (.int .i64 ((rd_T65 l0 x10_1).f8))) (ds := []) m18_0 zr rfl rfl ⟨(jD BK212.out 0).trans rfl, (jD BK212.out 1).trans rfl, (jD BK212.out 2).trans rfl, (jD BK212.out 3).trans rfl, (jD BK212.out 4).trans rfl, (jD BK212.out 5).trans rfl, (jD BK212.out 6).trans rfl, (jD BK212.out 7).trans rfl, (jD BK212.out 8).trans rfl⟩ (fun hHeld => ?_); refine with_tabW impl_AreArticles.tab6 impl_AreArticles.bits6 (fun HT_ HW_ => ?_)
        generalize w30.drew = w31 at BK212 HB hHeld ⊢
        refine zt9 HT_ HW_ hHeld 0 15 m18_20000 ?_
        refine one_ (i := 1) (N := some 16) m18_30000 rfl rfl (one_of HT_.out zr) (by decide) (fun K hK => ?_)
        refine goes_ Try.func84 zr rfl #[.agg #[.string ((rd_T65 l0 x10_1).f0), .int .i64 ((rd_T65 l0 x10_1).f1), .int .i64 ((rd_T65 l0 x10_1).f2), .int .i64 ((rd_T65 l0 x10_1).f3), .int .i64 ((rd_T65 l0 x10_1).f4), .int .i64 ((rd_T65 l0 x10_1).f5), .int .i64 ((rd_T65 l0 x10_1).f6), .int .i64 ((rd_T65 l0 x10_1).f7), .int .i64 ((rd_T65 l0 x10_1).f8)]] (by rfl) rfl rfl zm ?_
        with_reducible refine (impl_IsArticle.calls k1 ((rd_T65 l0 x10_1).f0) ((rd_T65 l0 x10_1).f1) ((rd_T65 l0 x10_1).f2) ((rd_T65 l0 x10_1).f3) ((rd_T65 l0 x10_1).f4) ((rd_T65 l0 x10_1).f5) ((rd_T65 l0 x10_1).f6) ((rd_T65 l0 x10_1).f7) ((rd_T65 l0 x10_1).f8) false _ A6.out).mono ?_
        rintro e w32 ⟨rfl, hb⟩
        refine ⟨_, rfl, ?_⟩
        have n0_ := jA (jO (g := gb212) (o := .cells #[.string ((rd_T65 l0 x10_1).f0), .int .i64 ((rd_T65 l0 x10_1).f1), .int .i64 ((rd_T65 l0 x10_1).f2), .int .i64 ((rd_T65 l0 x10_1).f3), .int .i64 ((rd_T65 l0 x10_1).f4), .int .i64 ((rd_T65 l0 x10_1).f5), .int .i64 ((rd_T65 l0 x10_1).f6), .int .i64 ((rd_T65 l0 x10_1).f7), .int .i64 ((rd_T65 l0 x10_1).f8)] 65 (0, 0)) (zk BK212) hb)
        have n1_ := jA (jJ (zb1 HB GE212) hb)
        clear BK212
        clear HB
        have BK212 := n0_
        have HB := n1_
        clear n0_ n1_
        (try clear hb)
        (try clear hb2)
        (try clear hk)
        (try clear hi)
        refine hK.out _ _ ⟨(jD BK212.out 0).trans rfl, (jD BK212.out 1).trans rfl, (jD BK212.out 2).trans rfl, (jD BK212.out 3).trans rfl, (jD BK212.out 4).trans rfl, (jD BK212.out 5).trans rfl, (jD BK212.out 6).trans rfl, (jD BK212.out 7).trans rfl, (jD BK212.out 8).trans rfl⟩ (fun hHeld => ?_)
        clear hK K
        refine norm_ (a' := ?_) ?_ ?_
        rotate_left
        ·show Act.put _ (some 16) _ = _
         simp only [Act.put, jL, jS, jT, i64_w, i32_w]
         rfl
        refine zp HT_ 2 17 m18_38000 ?_
        refine zp HT_ 3 18 m18_3c000 ?_
        refine zq HT_ 4 19 m18_3e000 ?_
        refine zq HT_ 5 20 m18_3f000 ?_
        refine zq HT_ 6 21 m18_3f800 ?_
        refine zq HT_ 7 22 m18_3fc00 ?_
        refine zq HT_ 8 23 m18_3fe00 ?_
        refine zq HT_ 9 24 m18_3ff00 ?_
        refine zq HT_ 10 25 m18_3ff80 ?_
        refine zq HT_ 11 26 m18_3ffc0 ?_
        refine zq HT_ 12 27 m18_3ffe0 ?_
        refine zq HT_ 13 28 m18_3fff0 ?_
        refine zq HT_ 14 29 m18_3fff8 ?_
        refine zq HT_ 15 30 m18_3fffc ?_
        refine zq HT_ 16 31 m18_3fffe ?_
        refine zp HT_ 17 32 m18_3ffff ?_
        refine done_ (done_of HT_.out zr) ?_
        try go_wp2
        go_ret
        exact ⟨by first | rfl | (simp [errW_none, errW_some] <;> rfl) | (simp [*, errW_none, errW_some] <;> rfl), zb1 HB GE212⟩
      ·rw [if_neg c5] at H
       exact absurd H (by simp)
     ·rw [if_neg c4] at H
      exact absurd H (by simp)
    ·rw [if_neg c3] at H
     have c3b0 : decide (x10_1 < (l0.length : Int)) = false := jY c3
     clear c3
     obtain rfl := jM H
     go_wp2
     go_ret
     exact ⟨by first | rfl | (simp [errW_none, errW_some] <;> rfl) | (simp [*, errW_none, errW_some] <;> rfl), zb0 HB⟩

end Go.Proofs.Ytdgglhfnlljmeaa.PFnExactStorePieces
