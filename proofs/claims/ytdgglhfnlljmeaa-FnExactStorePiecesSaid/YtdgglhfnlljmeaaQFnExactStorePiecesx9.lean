/- Functions and contracts that FnExactStorePieces reaches (10 of 17). -/
import Derived.Test.YtdgglhfnlljmeaaQFnExactStorePiecesx8
namespace Go.Proofs.Ytdgglhfnlljmeaa.PFnExactStorePieces
open Go.RowKit Go.Proofs.YtdgglhfnlljmeaaW.PrintWords Go.Proofs.YtdgglhfnlljmeaaW.PrintLast Go.Proofs.YtdgglhfnlljmeaaW.PrintMore
attribute [local go_sem] max2_int min2_int max_two min_two max_three min_three max_four min_four   -- for this text's walks alone
set_option linter.unusedVariables false
set_option linter.unusedSimpArgs false
open Go.Proofs.YtdgglhfnlljmeaaX

/-! ### impl_isMixed: function 68 -/
def impl_isMixed.l0 : Nat → Bool → Bool → List (S65) → Int → Int → Int → List Int → Option (Bool)
 | 0, _, _, _, _, _, _, _ => none
 | k + 1, x5, x6, x9, x10, x11, x229000, x229001 => if x11 < x10 then (if 0 ≤ x11 then (if x11 < (x9.length : Int) then (if x11 < (x229001.length : Int) then (if (rd x229001 x11) > 0 then (if x5 = true then (if x6 = true then (impl_isMixed.l0 k true true x9 x10 (wrap64 (x11 + 1)) x229000 x229001) else (impl_isMixed.l0 k true (((rd_T65 x9 x11).f8) != 3) x9 x10 (wrap64 (x11 + 1)) x229000 x229001)) else (if x6 = true then (impl_isMixed.l0 k (((rd_T65 x9 x11).f8) == 3) true x9 x10 (wrap64 (x11 + 1)) x229000 x229001) else (impl_isMixed.l0 k (((rd_T65 x9 x11).f8) == 3) (((rd_T65 x9 x11).f8) != 3) x9 x10 (wrap64 (x11 + 1)) x229000 x229001))) else (impl_isMixed.l0 k x5 x6 x9 x10 (wrap64 (x11 + 1)) x229000 x229001)) else (none)) else (none)) else (none)) else (if x5 = true then (some x6) else (some false))
def impl_isMixed.f (k : Nat) (l0 : List (S65)) (a1_0 : Int) (l1_1 : List Int) : Option (Bool) := impl_isMixed.l0 k false false l0 (l0.length : Int) 0 a1_0 l1_1
theorem impl_isMixed.mono_l : ∀ k, (∀ y0 y1 y2 y3 y4 y5 y6, LeO (impl_isMixed.l0 k y0 y1 y2 y3 y4 y5 y6) (impl_isMixed.l0 (k + 1) y0 y1 y2 y3 y4 y5 y6))
 | 0 => fun _ _ _ _ _ _ _ r h => by simp [impl_isMixed.l0] at h
 | k + 1 => by
  have ih0 := impl_isMixed.mono_l k
  ·intro y0 y1 y2 y3 y4 y5 y6
   unfold impl_isMixed.l0
   repeat' first
   | (with_reducible exact ih0 _ _ _ _ _ _ _)
   | (with_reducible exact LeO.refl _)
   | (with_reducible exact LeO.none _)
   | (with_reducible refine LeO.ite ?_ ?_)
   | (with_reducible refine LeO.bind ?_ (fun _ => ?_))
   | exact ih0 _ _ _ _ _ _ _
   | exact LeO.none _
   | refine LeO.ite ?_ ?_
   | refine LeO.bind ?_ (fun _ => ?_)
theorem impl_isMixed.mono : ∀ a0 a1 a2 k, LeO (impl_isMixed.f k a0 a1 a2) (impl_isMixed.f (k + 1) a0 a1 a2) := by
 intro a0 a1 a2 k
 have ih0 := impl_isMixed.mono_l k
 unfold impl_isMixed.f
 repeat' first
   | (with_reducible exact ih0 _ _ _ _ _ _ _)
   | (with_reducible exact LeO.refl _)
   | (with_reducible exact LeO.none _)
   | (with_reducible refine LeO.ite ?_ ?_)
   | (with_reducible refine LeO.bind ?_ (fun _ => ?_))
   | exact ih0 _ _ _ _ _ _ _
   | exact LeO.none _
   | refine LeO.ite ?_ ?_
   | refine LeO.bind ?_ (fun _ => ?_)
set_option maxHeartbeats 8000000 in
set_option maxRecDepth 100000 in
theorem impl_isMixed.calls (k : Nat) (A0 : Option Addr) (c0 : Nat) (l0 : List (S65)) (a1_0 : Int) (A1_1 : Option Addr) (c1_1 : Nat) (l1_1 : List Int) (r : Bool) (w : World) (hr0 : Kd.C k65 w A0 l0.length l0) (hc0 : l0.length ≤ c0) (hr1_1 : Kd.C (Kd.int .i64) w A1_1 l1_1.length l1_1) (hc1_1 : l1_1.length ≤ c1_1) (h : impl_isMixed.f k l0 a1_0 l1_1 = some r) :
  Calls Try.prog 68 #[.slice A0 l0.length c0, .agg #[.int .i64 a1_0, .slice A1_1 l1_1.length c1_1]] w fun e w' => e = .returned (.bool r) ∧ Below w.heap.size w w' := by
 have hu28 := Try.underlying28
 have hu65 := Try.underlying65
 have HR0 := jA hr0
 have HC0 := jA hc0
 clear hr0 hc0
 have HR1_1 := jA hr1_1
 have HC1_1 := jA hc1_1
 clear hr1_1 hc1_1
 have HB := jA (Below.refl w.heap.size w)
 have H : (impl_isMixed.l0 k false false l0 (l0.length : Int) 0 a1_0 l1_1) = some r := h
 clear h
 have H' := jA H
 clear H
 go_enter Try.func68, Try.ntmps68
 go_wp2_with (first | ((with_reducible refine jV (N := 3) rfl ?_); refine jU ?hg (N := 3) ?hd (cs := #[.int .i64 a1_0, .slice A1_1 l1_1.length c1_1]) (t := 28) ?hr ?_; (case hd => rfl); (case hg => rfl); (case hr => first | (go_simp; done) | (go_simp; rfl)); intro gb228 hg w3 hbox hb; have n0_ := jA (jJ (zb0 HB) hb); have n1_ := jA (hbox); have n2_ := jA ((by rw [hg]; exact (jF (zb0 HB)) : w.heap.size ≤ gb228)); have n3_ := jA ((by rw [hg]; exact (jF (zb0 HB)) : w.heap.size ≤ gb228)); clear HB; have HB := n0_; have BK228 := n1_; have GW228 := n2_; have GE228 := n3_; clear n0_ n1_ n2_ n3_; clear hb hbox hg))
 go_loopg [5, 6, 11] k (fun kq v5 v6 v11 w' => ∃ (x5_1 : Bool) (x6_1 : Bool) (x11_1 : Int), v5 = .bool x5_1 ∧ v6 = .bool x6_1 ∧ v11 = .int .i64 x11_1 ∧ Aside0 (impl_isMixed.l0 kq x5_1 x6_1 l0 (l0.length : Int) x11_1 a1_0 l1_1 = some r) ∧ Aside0 (kq ≤ k) ∧ Aside0 (w'.heap[gb228]? = some (.cells #[.int .i64 a1_0, (.slice A1_1 l1_1.length c1_1)] 28 (0, 0))) ∧ Aside0 (Below w.heap.size w w'))
 case atStart => exact ⟨(false), (false), (0), zz, zz, zz, H', ⟨Nat.le_refl _⟩, ⟨by (with_reducible repeat (first | refine jG ?_ _ | refine jI ?_ | refine jH ?_ _)); exact BK228.out⟩, ⟨zb1 HB GE228⟩⟩
 case round =>
  clear H'
  try clear c1
  try clear p2
  obtain ⟨x5_1, x6_1, x11_1, rfl, rfl, rfl, HA, HK1, BK228, HB⟩ := hrel
  cases gk with
  | zero => exact absurd HA.out (by simp [impl_isMixed.l0])
  | succ k1 =>
   have H := HA.out
   clear HA
   simp only [impl_isMixed.l0] at H
   by_cases c4 : x11_1 < (l0.length : Int)
   ·rw [if_pos c4] at H
    have c4b0 : decide (x11_1 < (l0.length : Int)) = true := jQ c4
    clear c4
    by_cases c5 : 0 ≤ x11_1
    ·rw [if_pos c5] at H
     have c5b0 : decide (0 ≤ x11_1) = true := jQ c5
     clear c5
     by_cases c6 : x11_1 < (l0.length : Int)
     ·rw [if_pos c6] at H
      have c6b0 : decide (x11_1 < (l0.length : Int)) = true := jQ c6
      clear c6
      by_cases c7 : x11_1 < (l1_1.length : Int)
      ·rw [if_pos c7] at H
       have c7b0 : decide (x11_1 < (l1_1.length : Int)) = true := jQ c7
       clear c7
       by_cases c8 : (rd l1_1 x11_1) > 0
       ·rw [if_pos c8] at H
        have c8b0 : decide (0 < (rd l1_1 x11_1)) = true := jQ c8
        clear c8
        by_cases c9 : x5_1 = true
        ·subst c9
         have H1 : (if x6_1 = true then (impl_isMixed.l0 k1 true true l0 (l0.length : Int) (wrap64 (x11_1 + 1)) a1_0 l1_1) else (impl_isMixed.l0 k1 true (((rd_T65 l0 x11_1).f8) != 3) l0 (l0.length : Int) (wrap64 (x11_1 + 1)) a1_0 l1_1)) = some r := by rw [if_pos rfl] at H; exact H
         clear H
         have H := H1
         clear H1
         by_cases c10 : x6_1 = true
         ·subst c10
          have H1 : (impl_isMixed.l0 k1 true true l0 (l0.length : Int) (wrap64 (x11_1 + 1)) a1_0 l1_1) = some r := by rw [if_pos rfl] at H; exact H
          clear H
          have H := H1
          clear H1
          have H' := jA H
          clear H
          have p229 : 0 ≤ (x11_1 : Int) := jE za
          have q229 : x11_1 < (l0.length : Int) := jE za
          obtain ⟨ad229, e229, hx229_0, hx229_1, hx229_2, hx229_3, hx229_4, hx229_5, hx229_6, hx229_7, hx229_8⟩ := at_T65 HR0.out x11_1 p229 q229
          cases e229
          replace hx229_0 := (HB.out.cell (jB w _ hx229_0)).trans hx229_0
          replace hx229_1 := (HB.out.cell (jB w _ hx229_1)).trans hx229_1
          replace hx229_2 := (HB.out.cell (jB w _ hx229_2)).trans hx229_2
          replace hx229_3 := (HB.out.cell (jB w _ hx229_3)).trans hx229_3
          replace hx229_4 := (HB.out.cell (jB w _ hx229_4)).trans hx229_4
          replace hx229_5 := (HB.out.cell (jB w _ hx229_5)).trans hx229_5
          replace hx229_6 := (HB.out.cell (jB w _ hx229_6)).trans hx229_6
          replace hx229_7 := (HB.out.cell (jB w _ hx229_7)).trans hx229_7
          replace hx229_8 := (HB.out.cell (jB w _ hx229_8)).trans hx229_8
          replace p229 := eq_true p229
          replace q229 := eq_true q229
          go_wp2_with (first | ((with_reducible refine jV (N := 8) rfl ?_); refine jU ?hg (N := 8) ?hd (cs := #[.string (⟨#[]⟩ : ByteArray), .int .i64 0, .int .i64 0, .int .i64 0, .int .i64 0, .int .i64 0, .int .i64 0, .int .i64 0, .int .i64 0]) (t := 65) ?hr ?_; (case hd => rfl); (case hg => rfl); (case hr => first | (go_simp; done) | (go_simp; rfl)); intro gb230 hg w11 hbox hb; have n0_ := jA (jO (g := gb228) (o := .cells #[.int .i64 a1_0, .slice A1_1 l1_1.length c1_1] 28 (0, 0)) (zk BK228) hb); have n1_ := jA (jJ (zb1 HB GE228) hb); have n2_ := jA (hbox); have n3_ := jA ((by rw [hg]; exact (jF (zb1 HB GE228)) : w.heap.size ≤ gb230)); have n4_ := jA ((by rw [hg]; exact (jF (zb1 HB GE228)) : w.heap.size ≤ gb230)); have n5_ := jA ((by rw [hg]; exact jN (blk_lt (g := gb228) (o := .cells #[.int .i64 a1_0, .slice A1_1 l1_1.length c1_1] 28 (0, 0)) (zk BK228)) : gb228 ≠ gb230)); have n6_ := jA n5_.out.symm; clear BK228; clear HB; have BK228 := n0_; have HB := n1_; have BK230 := n2_; have GW230 := n3_; have GE230 := n4_; have NB228_230 := n5_; have NB230_228 := n6_; clear n0_ n1_ n2_ n3_ n4_ n5_ n6_; clear hb hbox hg; have hnb12 := NB230_228.out; have hnc12 := NB228_230.out; have hcz13_0 : w11.cell? ⟨gb230, 0, none⟩ = some (.string (⟨#[]⟩ : ByteArray)) := (jD BK230.out 0).trans rfl; have hcz13_1 : w11.cell? ⟨gb230, 1, none⟩ = some (.int .i64 0) := (jD BK230.out 1).trans rfl; have hcz13_2 : w11.cell? ⟨gb230, 2, none⟩ = some (.int .i64 0) := (jD BK230.out 2).trans rfl; have hcz13_3 : w11.cell? ⟨gb230, 3, none⟩ = some (.int .i64 0) := (jD BK230.out 3).trans rfl; have hcz13_4 : w11.cell? ⟨gb230, 4, none⟩ = some (.int .i64 0) := (jD BK230.out 4).trans rfl; have hcz13_5 : w11.cell? ⟨gb230, 5, none⟩ = some (.int .i64 0) := (jD BK230.out 5).trans rfl; have hcz13_6 : w11.cell? ⟨gb230, 6, none⟩ = some (.int .i64 0) := (jD BK230.out 6).trans rfl; have hcz13_7 : w11.cell? ⟨gb230, 7, none⟩ = some (.int .i64 0) := (jD BK230.out 7).trans rfl; have hcz13_8 : w11.cell? ⟨gb230, 8, none⟩ = some (.int .i64 0) := (jD BK230.out 8).trans rfl; have hfz13_0 := jC BK230.out 0; have hfz13_1 := jC BK230.out 1; have hfz13_2 := jC BK230.out 2; have hfz13_3 := jC BK230.out 3; have hfz13_4 := jC BK230.out 4; have hfz13_5 := jC BK230.out 5; have hfz13_6 := jC BK230.out 6; have hfz13_7 := jC BK230.out 7; have hfz13_8 := jC BK230.out 8; have hcz14_0 : w11.cell? ⟨gb228, 0, none⟩ = some (.int .i64 a1_0) := (jD BK228.out 0).trans rfl; have hcz14_1 : w11.cell? ⟨gb228, 1, none⟩ = some (.slice A1_1 l1_1.length c1_1) := (jD BK228.out 1).trans rfl; have hfz14_0 := jC BK228.out 0; have hfz14_1 := jC BK228.out 1; have p231 : 0 ≤ (x11_1 : Int) := jE za; have q231 : x11_1 < (l1_1.length : Int) := jE za; obtain ⟨ad231, e231, hx231_0⟩ := Kd.at_int HR1_1.out x11_1 p231 q231; cases e231; have hn231_0 : ad231.block ≠ gb230 := jN (jR (by have := jB _ _ hx231_0; first | rwa [jK] at this | exact this) GW230.out); have hn231_1 : ad231.block ≠ gb230 := jN (jR (by have := jB _ _ hx231_0; first | rwa [jK] at this | exact this) GW230.out); have hn231_2 : ad231.block ≠ gb230 := jN (jR (by have := jB _ _ hx231_0; first | rwa [jK] at this | exact this) GW230.out); have hn231_3 : ad231.block ≠ gb230 := jN (jR (by have := jB _ _ hx231_0; first | rwa [jK] at this | exact this) GW230.out); have hn231_4 : ad231.block ≠ gb230 := jN (jR (by have := jB _ _ hx231_0; first | rwa [jK] at this | exact this) GW230.out); have hn231_5 : ad231.block ≠ gb230 := jN (jR (by have := jB _ _ hx231_0; first | rwa [jK] at this | exact this) GW230.out); have hn231_6 : ad231.block ≠ gb230 := jN (jR (by have := jB _ _ hx231_0; first | rwa [jK] at this | exact this) GW230.out); have hn231_7 : ad231.block ≠ gb230 := jN (jR (by have := jB _ _ hx231_0; first | rwa [jK] at this | exact this) GW230.out); have hn231_8 : ad231.block ≠ gb230 := jN (jR (by have := jB _ _ hx231_0; first | rwa [jK] at this | exact this) GW230.out); replace hx231_0 := (HB.out.cell (jB w _ hx231_0)).trans hx231_0; replace hx231_0 := (jX (p := ⟨gb230, 0, none⟩) (by first | (rw [jK]; exact hn231_0) | (show (Addr.add _ _).block ≠ _; rw [jK]; exact hn231_0) | exact hn231_0) (.string ((rd_T65 l0 x11_1).f0))).trans hx231_0; replace hx231_0 := (jX (p := ⟨gb230, 1, none⟩) (by first | (rw [jK]; exact hn231_1) | (show (Addr.add _ _).block ≠ _; rw [jK]; exact hn231_1) | exact hn231_1) (.int .i64 ((rd_T65 l0 x11_1).f1))).trans hx231_0; replace hx231_0 := (jX (p := ⟨gb230, 2, none⟩) (by first | (rw [jK]; exact hn231_2) | (show (Addr.add _ _).block ≠ _; rw [jK]; exact hn231_2) | exact hn231_2) (.int .i64 ((rd_T65 l0 x11_1).f2))).trans hx231_0; replace hx231_0 := (jX (p := ⟨gb230, 3, none⟩) (by first | (rw [jK]; exact hn231_3) | (show (Addr.add _ _).block ≠ _; rw [jK]; exact hn231_3) | exact hn231_3) (.int .i64 ((rd_T65 l0 x11_1).f3))).trans hx231_0; replace hx231_0 := (jX (p := ⟨gb230, 4, none⟩) (by first | (rw [jK]; exact hn231_4) | (show (Addr.add _ _).block ≠ _; rw [jK]; exact hn231_4) | exact hn231_4) (.int .i64 ((rd_T65 l0 x11_1).f4))).trans hx231_0; replace hx231_0 := (jX (p := ⟨gb230, 5, none⟩) (by first | (rw [jK]; exact hn231_5) | (show (Addr.add _ _).block ≠ _; rw [jK]; exact hn231_5) | exact hn231_5) (.int .i64 ((rd_T65 l0 x11_1).f5))).trans hx231_0; replace hx231_0 := (jX (p := ⟨gb230, 6, none⟩) (by first | (rw [jK]; exact hn231_6) | (show (Addr.add _ _).block ≠ _; rw [jK]; exact hn231_6) | exact hn231_6) (.int .i64 ((rd_T65 l0 x11_1).f6))).trans hx231_0; replace hx231_0 := (jX (p := ⟨gb230, 7, none⟩) (by first | (rw [jK]; exact hn231_7) | (show (Addr.add _ _).block ≠ _; rw [jK]; exact hn231_7) | exact hn231_7) (.int .i64 ((rd_T65 l0 x11_1).f7))).trans hx231_0; replace hx231_0 := (jX (p := ⟨gb230, 8, none⟩) (by first | (rw [jK]; exact hn231_8) | (show (Addr.add _ _).block ≠ _; rw [jK]; exact hn231_8) | exact hn231_8) (.int .i64 ((rd_T65 l0 x11_1).f8))).trans hx231_0; clear hn231_0; clear hn231_1; clear hn231_2; clear hn231_3; clear hn231_4; clear hn231_5; clear hn231_6; clear hn231_7; clear hn231_8; replace p231 := eq_true p231; replace q231 := eq_true q231))
          go_roundg k1
          case measure => have := HK1.out; omega
          case rel => exact ⟨(true), (true), (wrap64 (x11_1 + 1)), zz, zz, zz, H', ⟨by have := HK1.out; omega⟩, ⟨by (with_reducible repeat (first | refine jG ?_ _ | refine jI ?_ | refine jH ?_ _)); refine ja ?_ NB228_230.out _; (with_reducible repeat (first | refine jG ?_ _ | refine jI ?_ | refine jH ?_ _)); refine ja ?_ NB228_230.out _; (with_reducible repeat (first | refine jG ?_ _ | refine jI ?_ | refine jH ?_ _)); refine ja ?_ NB228_230.out _; (with_reducible repeat (first | refine jG ?_ _ | refine jI ?_ | refine jH ?_ _)); refine ja ?_ NB228_230.out _; (with_reducible repeat (first | refine jG ?_ _ | refine jI ?_ | refine jH ?_ _)); refine ja ?_ NB228_230.out _; (with_reducible repeat (first | refine jG ?_ _ | refine jI ?_ | refine jH ?_ _)); refine ja ?_ NB228_230.out _; (with_reducible repeat (first | refine jG ?_ _ | refine jI ?_ | refine jH ?_ _)); refine ja ?_ NB228_230.out _; (with_reducible repeat (first | refine jG ?_ _ | refine jI ?_ | refine jH ?_ _)); refine ja ?_ NB228_230.out _; (with_reducible repeat (first | refine jG ?_ _ | refine jI ?_ | refine jH ?_ _)); refine ja ?_ NB228_230.out _; (with_reducible repeat (first | refine jG ?_ _ | refine jI ?_ | refine jH ?_ _)); exact BK228.out⟩, ⟨zb2 HB GE228 GE230⟩⟩
         ·replace c10 := Bool.eq_false_iff.mpr c10
          subst c10
          have H1 : (impl_isMixed.l0 k1 true (((rd_T65 l0 x11_1).f8) != 3) l0 (l0.length : Int) (wrap64 (x11_1 + 1)) a1_0 l1_1) = some r := by rw [if_neg (show ¬ (false = true) by decide)] at H; exact H
          clear H
          have H := H1
          clear H1
          have H' := jA H
          clear H
          have p229 : 0 ≤ (x11_1 : Int) := jE za
          have q229 : x11_1 < (l0.length : Int) := jE za
          obtain ⟨ad229, e229, hx229_0, hx229_1, hx229_2, hx229_3, hx229_4, hx229_5, hx229_6, hx229_7, hx229_8⟩ := at_T65 HR0.out x11_1 p229 q229
          cases e229
          replace hx229_0 := (HB.out.cell (jB w _ hx229_0)).trans hx229_0
          replace hx229_1 := (HB.out.cell (jB w _ hx229_1)).trans hx229_1
          replace hx229_2 := (HB.out.cell (jB w _ hx229_2)).trans hx229_2
          replace hx229_3 := (HB.out.cell (jB w _ hx229_3)).trans hx229_3
          replace hx229_4 := (HB.out.cell (jB w _ hx229_4)).trans hx229_4
          replace hx229_5 := (HB.out.cell (jB w _ hx229_5)).trans hx229_5
          replace hx229_6 := (HB.out.cell (jB w _ hx229_6)).trans hx229_6
          replace hx229_7 := (HB.out.cell (jB w _ hx229_7)).trans hx229_7
          replace hx229_8 := (HB.out.cell (jB w _ hx229_8)).trans hx229_8
          replace p229 := eq_true p229
          replace q229 := eq_true q229
          go_wp2_with (first | ((with_reducible refine jV (N := 8) rfl ?_); refine jU ?hg (N := 8) ?hd (cs := #[.string (⟨#[]⟩ : ByteArray), .int .i64 0, .int .i64 0, .int .i64 0, .int .i64 0, .int .i64 0, .int .i64 0, .int .i64 0, .int .i64 0]) (t := 65) ?hr ?_; (case hd => rfl); (case hg => rfl); (case hr => first | (go_simp; done) | (go_simp; rfl)); intro gb230 hg w15 hbox hb; have n0_ := jA (jO (g := gb228) (o := .cells #[.int .i64 a1_0, .slice A1_1 l1_1.length c1_1] 28 (0, 0)) (zk BK228) hb); have n1_ := jA (jJ (zb1 HB GE228) hb); have n2_ := jA (hbox); have n3_ := jA ((by rw [hg]; exact (jF (zb1 HB GE228)) : w.heap.size ≤ gb230)); have n4_ := jA ((by rw [hg]; exact (jF (zb1 HB GE228)) : w.heap.size ≤ gb230)); have n5_ := jA ((by rw [hg]; exact jN (blk_lt (g := gb228) (o := .cells #[.int .i64 a1_0, .slice A1_1 l1_1.length c1_1] 28 (0, 0)) (zk BK228)) : gb228 ≠ gb230)); have n6_ := jA n5_.out.symm; clear BK228; clear HB; have BK228 := n0_; have HB := n1_; have BK230 := n2_; have GW230 := n3_; have GE230 := n4_; have NB228_230 := n5_; have NB230_228 := n6_; clear n0_ n1_ n2_ n3_ n4_ n5_ n6_; clear hb hbox hg; have hnb16 := NB230_228.out; have hnc16 := NB228_230.out; have hcz17_0 : w15.cell? ⟨gb230, 0, none⟩ = some (.string (⟨#[]⟩ : ByteArray)) := (jD BK230.out 0).trans rfl; have hcz17_1 : w15.cell? ⟨gb230, 1, none⟩ = some (.int .i64 0) := (jD BK230.out 1).trans rfl; have hcz17_2 : w15.cell? ⟨gb230, 2, none⟩ = some (.int .i64 0) := (jD BK230.out 2).trans rfl; have hcz17_3 : w15.cell? ⟨gb230, 3, none⟩ = some (.int .i64 0) := (jD BK230.out 3).trans rfl; have hcz17_4 : w15.cell? ⟨gb230, 4, none⟩ = some (.int .i64 0) := (jD BK230.out 4).trans rfl; have hcz17_5 : w15.cell? ⟨gb230, 5, none⟩ = some (.int .i64 0) := (jD BK230.out 5).trans rfl; have hcz17_6 : w15.cell? ⟨gb230, 6, none⟩ = some (.int .i64 0) := (jD BK230.out 6).trans rfl; have hcz17_7 : w15.cell? ⟨gb230, 7, none⟩ = some (.int .i64 0) := (jD BK230.out 7).trans rfl; have hcz17_8 : w15.cell? ⟨gb230, 8, none⟩ = some (.int .i64 0) := (jD BK230.out 8).trans rfl; have hfz17_0 := jC BK230.out 0; have hfz17_1 := jC BK230.out 1; have hfz17_2 := jC BK230.out 2; have hfz17_3 := jC BK230.out 3; have hfz17_4 := jC BK230.out 4; have hfz17_5 := jC BK230.out 5; have hfz17_6 := jC BK230.out 6; have hfz17_7 := jC BK230.out 7; have hfz17_8 := jC BK230.out 8; have hcz18_0 : w15.cell? ⟨gb228, 0, none⟩ = some (.int .i64 a1_0) := (jD BK228.out 0).trans rfl; have hcz18_1 : w15.cell? ⟨gb228, 1, none⟩ = some (.slice A1_1 l1_1.length c1_1) := (jD BK228.out 1).trans rfl; have hfz18_0 := jC BK228.out 0; have hfz18_1 := jC BK228.out 1; have p231 : 0 ≤ (x11_1 : Int) := jE za; have q231 : x11_1 < (l1_1.length : Int) := jE za; obtain ⟨ad231, e231, hx231_0⟩ := Kd.at_int HR1_1.out x11_1 p231 q231; cases e231; have hn231_0 : ad231.block ≠ gb230 := jN (jR (by have := jB _ _ hx231_0; first | rwa [jK] at this | exact this) GW230.out); have hn231_1 : ad231.block ≠ gb230 := jN (jR (by have := jB _ _ hx231_0; first | rwa [jK] at this | exact this) GW230.out); have hn231_2 : ad231.block ≠ gb230 := jN (jR (by have := jB _ _ hx231_0; first | rwa [jK] at this | exact this) GW230.out); have hn231_3 : ad231.block ≠ gb230 := jN (jR (by have := jB _ _ hx231_0; first | rwa [jK] at this | exact this) GW230.out); have hn231_4 : ad231.block ≠ gb230 := jN (jR (by have := jB _ _ hx231_0; first | rwa [jK] at this | exact this) GW230.out); have hn231_5 : ad231.block ≠ gb230 := jN (jR (by have := jB _ _ hx231_0; first | rwa [jK] at this | exact this) GW230.out); have hn231_6 : ad231.block ≠ gb230 := jN (jR (by have := jB _ _ hx231_0; first | rwa [jK] at this | exact this) GW230.out); have hn231_7 : ad231.block ≠ gb230 := jN (jR (by have := jB _ _ hx231_0; first | rwa [jK] at this | exact this) GW230.out); have hn231_8 : ad231.block ≠ gb230 := jN (jR (by have := jB _ _ hx231_0; first | rwa [jK] at this | exact this) GW230.out); replace hx231_0 := (HB.out.cell (jB w _ hx231_0)).trans hx231_0; replace hx231_0 := (jX (p := ⟨gb230, 0, none⟩) (by first | (rw [jK]; exact hn231_0) | (show (Addr.add _ _).block ≠ _; rw [jK]; exact hn231_0) | exact hn231_0) (.string ((rd_T65 l0 x11_1).f0))).trans hx231_0; replace hx231_0 := (jX (p := ⟨gb230, 1, none⟩) (by first | (rw [jK]; exact hn231_1) | (show (Addr.add _ _).block ≠ _; rw [jK]; exact hn231_1) | exact hn231_1) (.int .i64 ((rd_T65 l0 x11_1).f1))).trans hx231_0; replace hx231_0 := (jX (p := ⟨gb230, 2, none⟩) (by first | (rw [jK]; exact hn231_2) | (show (Addr.add _ _).block ≠ _; rw [jK]; exact hn231_2) | exact hn231_2) (.int .i64 ((rd_T65 l0 x11_1).f2))).trans hx231_0; replace hx231_0 := (jX (p := ⟨gb230, 3, none⟩) (by first | (rw [jK]; exact hn231_3) | (show (Addr.add _ _).block ≠ _; rw [jK]; exact hn231_3) | exact hn231_3) (.int .i64 ((rd_T65 l0 x11_1).f3))).trans hx231_0; replace hx231_0 := (jX (p := ⟨gb230, 4, none⟩) (by first | (rw [jK]; exact hn231_4) | (show (Addr.add _ _).block ≠ _; rw [jK]; exact hn231_4) | exact hn231_4) (.int .i64 ((rd_T65 l0 x11_1).f4))).trans hx231_0; replace hx231_0 := (jX (p := ⟨gb230, 5, none⟩) (by first | (rw [jK]; exact hn231_5) | (show (Addr.add _ _).block ≠ _; rw [jK]; exact hn231_5) | exact hn231_5) (.int .i64 ((rd_T65 l0 x11_1).f5))).trans hx231_0; replace hx231_0 := (jX (p := ⟨gb230, 6, none⟩) (by first | (rw [jK]; exact hn231_6) | (show (Addr.add _ _).block ≠ _; rw [jK]; exact hn231_6) | exact hn231_6) (.int .i64 ((rd_T65 l0 x11_1).f6))).trans hx231_0; replace hx231_0 := (jX (p := ⟨gb230, 7, none⟩) (by first | (rw [jK]; exact hn231_7) | (show (Addr.add _ _).block ≠ _; rw [jK]; exact hn231_7) | exact hn231_7) (.int .i64 ((rd_T65 l0 x11_1).f7))).trans hx231_0; replace hx231_0 := (jX (p := ⟨gb230, 8, none⟩) (by first | (rw [jK]; exact hn231_8) | (show (Addr.add _ _).block ≠ _; rw [jK]; exact hn231_8) | exact hn231_8) (.int .i64 ((rd_T65 l0 x11_1).f8))).trans hx231_0; clear hn231_0; clear hn231_1; clear hn231_2; clear hn231_3; clear hn231_4; clear hn231_5; clear hn231_6; clear hn231_7; clear hn231_8; replace p231 := eq_true p231; replace q231 := eq_true q231))
          go_roundg k1
          case measure => have := HK1.out; omega
          case rel => exact ⟨(true), ((((rd_T65 l0 x11_1).f8) != 3)), (wrap64 (x11_1 + 1)), zz, zz, zz, H', ⟨by have := HK1.out; omega⟩, ⟨by (with_reducible repeat (first | refine jG ?_ _ | refine jI ?_ | refine jH ?_ _)); refine ja ?_ NB228_230.out _; (with_reducible repeat (first | refine jG ?_ _ | refine jI ?_ | refine jH ?_ _)); refine ja ?_ NB228_230.out _; (with_reducible repeat (first | refine jG ?_ _ | refine jI ?_ | refine jH ?_ _)); refine ja ?_ NB228_230.out _; (with_reducible repeat (first | refine jG ?_ _ | refine jI ?_ | refine jH ?_ _)); refine ja ?_ NB228_230.out _; (with_reducible repeat (first | refine jG ?_ _ | refine jI ?_ | refine jH ?_ _)); refine ja ?_ NB228_230.out _; (with_reducible repeat (first | refine jG ?_ _ | refine jI ?_ | refine jH ?_ _)); refine ja ?_ NB228_230.out _; (with_reducible repeat (first | refine jG ?_ _ | refine jI ?_ | refine jH ?_ _)); refine ja ?_ NB228_230.out _; (with_reducible repeat (first | refine jG ?_ _ | refine jI ?_ | refine jH ?_ _)); refine ja ?_ NB228_230.out _; (with_reducible repeat (first | refine jG ?_ _ | refine jI ?_ | refine jH ?_ _)); refine ja ?_ NB228_230.out _; (with_reducible repeat (first | refine jG ?_ _ | refine jI ?_ | refine jH ?_ _)); exact BK228.out⟩, ⟨zb2 HB GE228 GE230⟩⟩
        ·replace c9 := Bool.eq_false_iff.mpr c9
         subst c9
         have H1 : (if x6_1 = true then (impl_isMixed.l0 k1 (((rd_T65 l0 x11_1).f8) == 3) true l0 (l0.length : Int) (wrap64 (x11_1 + 1)) a1_0 l1_1) else (impl_isMixed.l0 k1 (((rd_T65 l0 x11_1).f8) == 3) (((rd_T65 l0 x11_1).f8) != 3) l0 (l0.length : Int) (wrap64 (x11_1 + 1)) a1_0 l1_1)) = some r := by rw [if_neg (show ¬ (false = true) by decide)] at H; exact H
         clear H
         have H := H1
         clear H1
         by_cases c19 : x6_1 = true
         ·subst c19
          have H1 : (impl_isMixed.l0 k1 (((rd_T65 l0 x11_1).f8) == 3) true l0 (l0.length : Int) (wrap64 (x11_1 + 1)) a1_0 l1_1) = some r := by rw [if_pos rfl] at H; exact H
          clear H
          have H := H1
          clear H1
          have H' := jA H
          clear H
          have p229 : 0 ≤ (x11_1 : Int) := jE za
          have q229 : x11_1 < (l0.length : Int) := jE za
          obtain ⟨ad229, e229, hx229_0, hx229_1, hx229_2, hx229_3, hx229_4, hx229_5, hx229_6, hx229_7, hx229_8⟩ := at_T65 HR0.out x11_1 p229 q229
          cases e229
          replace hx229_0 := (HB.out.cell (jB w _ hx229_0)).trans hx229_0
          replace hx229_1 := (HB.out.cell (jB w _ hx229_1)).trans hx229_1
          replace hx229_2 := (HB.out.cell (jB w _ hx229_2)).trans hx229_2
          replace hx229_3 := (HB.out.cell (jB w _ hx229_3)).trans hx229_3
          replace hx229_4 := (HB.out.cell (jB w _ hx229_4)).trans hx229_4
          replace hx229_5 := (HB.out.cell (jB w _ hx229_5)).trans hx229_5
          replace hx229_6 := (HB.out.cell (jB w _ hx229_6)).trans hx229_6
          replace hx229_7 := (HB.out.cell (jB w _ hx229_7)).trans hx229_7
          replace hx229_8 := (HB.out.cell (jB w _ hx229_8)).trans hx229_8
          replace p229 := eq_true p229
          replace q229 := eq_true q229
          go_wp2_with (first | ((with_reducible refine jV (N := 8) rfl ?_); refine jU ?hg (N := 8) ?hd (cs := #[.string (⟨#[]⟩ : ByteArray), .int .i64 0, .int .i64 0, .int .i64 0, .int .i64 0, .int .i64 0, .int .i64 0, .int .i64 0, .int .i64 0]) (t := 65) ?hr ?_; (case hd => rfl); (case hg => rfl); (case hr => first | (go_simp; done) | (go_simp; rfl)); intro gb230 hg w20 hbox hb; have n0_ := jA (jO (g := gb228) (o := .cells #[.int .i64 a1_0, .slice A1_1 l1_1.length c1_1] 28 (0, 0)) (zk BK228) hb); have n1_ := jA (jJ (zb1 HB GE228) hb); have n2_ := jA (hbox); have n3_ := jA ((by rw [hg]; exact (jF (zb1 HB GE228)) : w.heap.size ≤ gb230)); have n4_ := jA ((by rw [hg]; exact (jF (zb1 HB GE228)) : w.heap.size ≤ gb230)); have n5_ := jA ((by rw [hg]; exact jN (blk_lt (g := gb228) (o := .cells #[.int .i64 a1_0, .slice A1_1 l1_1.length c1_1] 28 (0, 0)) (zk BK228)) : gb228 ≠ gb230)); have n6_ := jA n5_.out.symm; clear BK228; clear HB; have BK228 := n0_; have HB := n1_; have BK230 := n2_; have GW230 := n3_; have GE230 := n4_; have NB228_230 := n5_; have NB230_228 := n6_; clear n0_ n1_ n2_ n3_ n4_ n5_ n6_; clear hb hbox hg; have hnb21 := NB230_228.out; have hnc21 := NB228_230.out; have hcz22_0 : w20.cell? ⟨gb230, 0, none⟩ = some (.string (⟨#[]⟩ : ByteArray)) := (jD BK230.out 0).trans rfl; have hcz22_1 : w20.cell? ⟨gb230, 1, none⟩ = some (.int .i64 0) := (jD BK230.out 1).trans rfl; have hcz22_2 : w20.cell? ⟨gb230, 2, none⟩ = some (.int .i64 0) := (jD BK230.out 2).trans rfl; have hcz22_3 : w20.cell? ⟨gb230, 3, none⟩ = some (.int .i64 0) := (jD BK230.out 3).trans rfl; have hcz22_4 : w20.cell? ⟨gb230, 4, none⟩ = some (.int .i64 0) := (jD BK230.out 4).trans rfl; have hcz22_5 : w20.cell? ⟨gb230, 5, none⟩ = some (.int .i64 0) := (jD BK230.out 5).trans rfl; have hcz22_6 : w20.cell? ⟨gb230, 6, none⟩ = some (.int .i64 0) := (jD BK230.out 6).trans rfl; have hcz22_7 : w20.cell? ⟨gb230, 7, none⟩ = some (.int .i64 0) := (jD BK230.out 7).trans rfl; have hcz22_8 : w20.cell? ⟨gb230, 8, none⟩ = some (.int .i64 0) := (jD BK230.out 8).trans rfl; have hfz22_0 := jC BK230.out 0; have hfz22_1 := jC BK230.out 1; have hfz22_2 := jC BK230.out 2; have hfz22_3 := jC BK230.out 3; have hfz22_4 := jC BK230.out 4; have hfz22_5 := jC BK230.out 5; have hfz22_6 := jC BK230.out 6; have hfz22_7 := jC BK230.out 7; have hfz22_8 := jC BK230.out 8; have hcz23_0 : w20.cell? ⟨gb228, 0, none⟩ = some (.int .i64 a1_0) := (jD BK228.out 0).trans rfl; have hcz23_1 : w20.cell? ⟨gb228, 1, none⟩ = some (.slice A1_1 l1_1.length c1_1) := (jD BK228.out 1).trans rfl; have hfz23_0 := jC BK228.out 0; have hfz23_1 := jC BK228.out 1; have p231 : 0 ≤ (x11_1 : Int) := jE za; have q231 : x11_1 < (l1_1.length : Int) := jE za; obtain ⟨ad231, e231, hx231_0⟩ := Kd.at_int HR1_1.out x11_1 p231 q231; cases e231; have hn231_0 : ad231.block ≠ gb230 := jN (jR (by have := jB _ _ hx231_0; first | rwa [jK] at this | exact this) GW230.out); have hn231_1 : ad231.block ≠ gb230 := jN (jR (by have := jB _ _ hx231_0; first | rwa [jK] at this | exact this) GW230.out); have hn231_2 : ad231.block ≠ gb230 := jN (jR (by have := jB _ _ hx231_0; first | rwa [jK] at this | exact this) GW230.out); have hn231_3 : ad231.block ≠ gb230 := jN (jR (by have := jB _ _ hx231_0; first | rwa [jK] at this | exact this) GW230.out); have hn231_4 : ad231.block ≠ gb230 := jN (jR (by have := jB _ _ hx231_0; first | rwa [jK] at this | exact this) GW230.out); have hn231_5 : ad231.block ≠ gb230 := jN (jR (by have := jB _ _ hx231_0; first | rwa [jK] at this | exact this) GW230.out); have hn231_6 : ad231.block ≠ gb230 := jN (jR (by have := jB _ _ hx231_0; first | rwa [jK] at this | exact this) GW230.out); have hn231_7 : ad231.block ≠ gb230 := jN (jR (by have := jB _ _ hx231_0; first | rwa [jK] at this | exact this) GW230.out); have hn231_8 : ad231.block ≠ gb230 := jN (jR (by have := jB _ _ hx231_0; first | rwa [jK] at this | exact this) GW230.out); replace hx231_0 := (HB.out.cell (jB w _ hx231_0)).trans hx231_0; replace hx231_0 := (jX (p := ⟨gb230, 0, none⟩) (by first | (rw [jK]; exact hn231_0) | (show (Addr.add _ _).block ≠ _; rw [jK]; exact hn231_0) | exact hn231_0) (.string ((rd_T65 l0 x11_1).f0))).trans hx231_0; replace hx231_0 := (jX (p := ⟨gb230, 1, none⟩) (by first | (rw [jK]; exact hn231_1) | (show (Addr.add _ _).block ≠ _; rw [jK]; exact hn231_1) | exact hn231_1) (.int .i64 ((rd_T65 l0 x11_1).f1))).trans hx231_0; replace hx231_0 := (jX (p := ⟨gb230, 2, none⟩) (by first | (rw [jK]; exact hn231_2) | (show (Addr.add _ _).block ≠ _; rw [jK]; exact hn231_2) | exact hn231_2) (.int .i64 ((rd_T65 l0 x11_1).f2))).trans hx231_0; replace hx231_0 := (jX (p := ⟨gb230, 3, none⟩) (by first | (rw [jK]; exact hn231_3) | (show (Addr.add _ _).block ≠ _; rw [jK]; exact hn231_3) | exact hn231_3) (.int .i64 ((rd_T65 l0 x11_1).f3))).trans hx231_0; replace hx231_0 := (jX (p := ⟨gb230, 4, none⟩) (by first | (rw [jK]; exact hn231_4) | (show (Addr.add _ _).block ≠ _; rw [jK]; exact hn231_4) | exact hn231_4) (.int .i64 ((rd_T65 l0 x11_1).f4))).trans hx231_0; replace hx231_0 := (jX (p := ⟨gb230, 5, none⟩) (by first | (rw [jK]; exact hn231_5) | (show (Addr.add _ _).block ≠ _; rw [jK]; exact hn231_5) | exact hn231_5) (.int .i64 ((rd_T65 l0 x11_1).f5))).trans hx231_0; replace hx231_0 := (jX (p := ⟨gb230, 6, none⟩) (by first | (rw [jK]; exact hn231_6) | (show (Addr.add _ _).block ≠ _; rw [jK]; exact hn231_6) | exact hn231_6) (.int .i64 ((rd_T65 l0 x11_1).f6))).trans hx231_0; replace hx231_0 := (jX (p := ⟨gb230, 7, none⟩) (by first | (rw [jK]; exact hn231_7) | (show (Addr.add _ _).block ≠ _; rw [jK]; exact hn231_7) | exact hn231_7) (.int .i64 ((rd_T65 l0 x11_1).f7))).trans hx231_0; replace hx231_0 := (jX (p := ⟨gb230, 8, none⟩) (by first | (rw [jK]; exact hn231_8) | (show (Addr.add _ _).block ≠ _; rw [jK]; exact hn231_8) | exact hn231_8) (.int .i64 ((rd_T65 l0 x11_1).f8))).trans hx231_0; clear hn231_0; clear hn231_1; clear hn231_2; clear hn231_3; clear hn231_4; clear hn231_5; clear hn231_6; clear hn231_7; clear hn231_8; replace p231 := eq_true p231; replace q231 := eq_true q231))
          go_roundg k1
          case measure => have := HK1.out; omega
          case rel => exact ⟨((((rd_T65 l0 x11_1).f8) == 3)), (true), (wrap64 (x11_1 + 1)), zz, zz, zz, H', ⟨by have := HK1.out; omega⟩, ⟨by (with_reducible repeat (first | refine jG ?_ _ | refine jI ?_ | refine jH ?_ _)); refine ja ?_ NB228_230.out _; (with_reducible repeat (first | refine jG ?_ _ | refine jI ?_ | refine jH ?_ _)); refine ja ?_ NB228_230.out _; (with_reducible repeat (first | refine jG ?_ _ | refine jI ?_ | refine jH ?_ _)); refine ja ?_ NB228_230.out _; (with_reducible repeat (first | refine jG ?_ _ | refine jI ?_ | refine jH ?_ _)); refine ja ?_ NB228_230.out _; (with_reducible repeat (first | refine jG ?_ _ | refine jI ?_ | refine jH ?_ _)); refine ja ?_ NB228_230.out _; (with_reducible repeat (first | refine jG ?_ _ | refine jI ?_ | refine jH ?_ _)); refine ja ?_ NB228_230.out _; (with_reducible repeat (first | refine jG ?_ _ | refine jI ?_ | refine jH ?_ _)); refine ja ?_ NB228_230.out _; (with_reducible repeat (first | refine jG ?_ _ | refine jI ?_ | refine jH ?_ _)); refine ja ?_ NB228_230.out _; (with_reducible repeat (first | refine jG ?_ _ | refine jI ?_ | refine jH ?_ _)); refine ja ?_ NB228_230.out _; (with_reducible repeat (first | refine jG ?_ _ | refine jI ?_ | refine jH ?_ _)); exact BK228.out⟩, ⟨zb2 HB GE228 GE230⟩⟩
         ·replace c19 := Bool.eq_false_iff.mpr c19
          subst c19
          have H1 : (impl_isMixed.l0 k1 (((rd_T65 l0 x11_1).f8) == 3) (((rd_T65 l0 x11_1).f8) != 3) l0 (l0.length : Int) (wrap64 (x11_1 + 1)) a1_0 l1_1) = some r := by rw [if_neg (show ¬ (false = true) by decide)] at H; exact H
          clear H
          have H := H1
          clear H1
          have H' := jA H
          clear H
          have p229 : 0 ≤ (x11_1 : Int) := jE za
          have q229 : x11_1 < (l0.length : Int) := jE za
          obtain ⟨ad229, e229, hx229_0, hx229_1, hx229_2, hx229_3, hx229_4, hx229_5, hx229_6, hx229_7, hx229_8⟩ := at_T65 HR0.out x11_1 p229 q229
          cases e229
          replace hx229_0 := (HB.out.cell (jB w _ hx229_0)).trans hx229_0
          replace hx229_1 := (HB.out.cell (jB w _ hx229_1)).trans hx229_1
          replace hx229_2 := (HB.out.cell (jB w _ hx229_2)).trans hx229_2
          replace hx229_3 := (HB.out.cell (jB w _ hx229_3)).trans hx229_3
          replace hx229_4 := (HB.out.cell (jB w _ hx229_4)).trans hx229_4
          replace hx229_5 := (HB.out.cell (jB w _ hx229_5)).trans hx229_5
          replace hx229_6 := (HB.out.cell (jB w _ hx229_6)).trans hx229_6
          replace hx229_7 := (HB.out.cell (jB w _ hx229_7)).trans hx229_7
          replace hx229_8 := (HB.out.cell (jB w _ hx229_8)).trans hx229_8
          replace p229 := eq_true p229
          replace q229 := eq_true q229
          go_wp2_with (first | ((with_reducible refine jV (N := 8) rfl ?_); refine jU ?hg (N := 8) ?hd (cs := #[.string (⟨#[]⟩ : ByteArray), .int .i64 0, .int .i64 0, .int .i64 0, .int .i64 0, .int .i64 0, .int .i64 0, .int .i64 0, .int .i64 0]) (t := 65) ?hr ?_; (case hd => rfl); (case hg => rfl); (case hr => first | (go_simp; done) | (go_simp; rfl)); intro gb230 hg w24 hbox hb; have n0_ := jA (jO (g := gb228) (o := .cells #[.int .i64 a1_0, .slice A1_1 l1_1.length c1_1] 28 (0, 0)) (zk BK228) hb); have n1_ := jA (jJ (zb1 HB GE228) hb); have n2_ := jA (hbox); have n3_ := jA ((by rw [hg]; exact (jF (zb1 HB GE228)) : w.heap.size ≤ gb230)); have n4_ := jA ((by rw [hg]; exact (jF (zb1 HB GE228)) : w.heap.size ≤ gb230)); have n5_ := jA ((by rw [hg]; exact jN (blk_lt (g := gb228) (o := .cells #[.int .i64 a1_0, .slice A1_1 l1_1.length c1_1] 28 (0, 0)) (zk BK228)) : gb228 ≠ gb230)); have n6_ := jA n5_.out.symm; clear BK228; clear HB; have BK228 := n0_; have HB := n1_; have BK230 := n2_; have GW230 := n3_; have GE230 := n4_; have NB228_230 := n5_; have NB230_228 := n6_; clear n0_ n1_ n2_ n3_ n4_ n5_ n6_; clear hb hbox hg; have hnb25 := NB230_228.out; have hnc25 := NB228_230.out; have hcz26_0 : w24.cell? ⟨gb230, 0, none⟩ = some (.string (⟨#[]⟩ : ByteArray)) := (jD BK230.out 0).trans rfl; have hcz26_1 : w24.cell? ⟨gb230, 1, none⟩ = some (.int .i64 0) := (jD BK230.out 1).trans rfl; have hcz26_2 : w24.cell? ⟨gb230, 2, none⟩ = some (.int .i64 0) := (jD BK230.out 2).trans rfl; have hcz26_3 : w24.cell? ⟨gb230, 3, none⟩ = some (.int .i64 0) := (jD BK230.out 3).trans rfl; have hcz26_4 : w24.cell? ⟨gb230, 4, none⟩ = some (.int .i64 0) := (jD BK230.out 4).trans rfl; have hcz26_5 : w24.cell? ⟨gb230, 5, none⟩ = some (.int .i64 0) := (jD BK230.out 5).trans rfl; have hcz26_6 : w24.cell? ⟨gb230, 6, none⟩ = some (.int .i64 0) := (jD BK230.out 6).trans rfl; have hcz26_7 : w24.cell? ⟨gb230, 7, none⟩ = some (.int .i64 0) := (jD BK230.out 7).trans rfl; have hcz26_8 : w24.cell? ⟨gb230, 8, none⟩ = some (.int .i64 0) := (jD BK230.out 8).trans rfl; have hfz26_0 := jC BK230.out 0; have hfz26_1 := jC BK230.out 1; have hfz26_2 := jC BK230.out 2; have hfz26_3 := jC BK230.out 3; have hfz26_4 := jC BK230.out 4; have hfz26_5 := jC BK230.out 5; have hfz26_6 := jC BK230.out 6; have hfz26_7 := jC BK230.out 7; have hfz26_8 := jC BK230.out 8; have hcz27_0 : w24.cell? ⟨gb228, 0, none⟩ = some (.int .i64 a1_0) := (jD BK228.out 0).trans rfl; have hcz27_1 : w24.cell? ⟨gb228, 1, none⟩ = some (.slice A1_1 l1_1.length c1_1) := (jD BK228.out 1).trans rfl; have hfz27_0 := jC BK228.out 0; have hfz27_1 := jC BK228.out 1; have p231 : 0 ≤ (x11_1 : Int) := jE za; have q231 : x11_1 < (l1_1.length : Int) := jE za; obtain ⟨ad231, e231, hx231_0⟩ := Kd.at_int HR1_1.out x11_1 p231 q231; cases e231; have hn231_0 : ad231.block ≠ gb230 := jN (jR (by have := jB _ _ hx231_0; first | rwa [jK] at this | exact this) GW230.out); have hn231_1 : ad231.block ≠ gb230 := jN (jR (by have := jB _ _ hx231_0; first | rwa [jK] at this | exact this) GW230.out); have hn231_2 : ad231.block ≠ gb230 := jN (jR (by have := jB _ _ hx231_0; first | rwa [jK] at this | exact this) GW230.out); have hn231_3 : ad231.block ≠ gb230 := jN (jR (by have := jB _ _ hx231_0; first | rwa [jK] at this | exact this) GW230.out); have hn231_4 : ad231.block ≠ gb230 := jN (jR (by have := jB _ _ hx231_0; first | rwa [jK] at this | exact this) GW230.out); have hn231_5 : ad231.block ≠ gb230 := jN (jR (by have := jB _ _ hx231_0; first | rwa [jK] at this | exact this) GW230.out); have hn231_6 : ad231.block ≠ gb230 := jN (jR (by have := jB _ _ hx231_0; first | rwa [jK] at this | exact this) GW230.out); have hn231_7 : ad231.block ≠ gb230 := jN (jR (by have := jB _ _ hx231_0; first | rwa [jK] at this | exact this) GW230.out); have hn231_8 : ad231.block ≠ gb230 := jN (jR (by have := jB _ _ hx231_0; first | rwa [jK] at this | exact this) GW230.out); replace hx231_0 := (HB.out.cell (jB w _ hx231_0)).trans hx231_0; replace hx231_0 := (jX (p := ⟨gb230, 0, none⟩) (by first | (rw [jK]; exact hn231_0) | (show (Addr.add _ _).block ≠ _; rw [jK]; exact hn231_0) | exact hn231_0) (.string ((rd_T65 l0 x11_1).f0))).trans hx231_0; replace hx231_0 := (jX (p := ⟨gb230, 1, none⟩) (by first | (rw [jK]; exact hn231_1) | (show (Addr.add _ _).block ≠ _; rw [jK]; exact hn231_1) | exact hn231_1) (.int .i64 ((rd_T65 l0 x11_1).f1))).trans hx231_0; replace hx231_0 := (jX (p := ⟨gb230, 2, none⟩) (by first | (rw [jK]; exact hn231_2) | (show (Addr.add _ _).block ≠ _; rw [jK]; exact hn231_2) | exact hn231_2) (.int .i64 ((rd_T65 l0 x11_1).f2))).trans hx231_0; replace hx231_0 := (jX (p := ⟨gb230, 3, none⟩) (by first | (rw [jK]; exact hn231_3) | (show (Addr.add _ _).block ≠ _; rw [jK]; exact hn231_3) | exact hn231_3) (.int .i64 ((rd_T65 l0 x11_1).f3))).trans hx231_0; replace hx231_0 := (jX (p := ⟨gb230, 4, none⟩) (by first | (rw [jK]; exact hn231_4) | (show (Addr.add _ _).block ≠ _; rw [jK]; exact hn231_4) | exact hn231_4) (.int .i64 ((rd_T65 l0 x11_1).f4))).trans hx231_0; replace hx231_0 := (jX (p := ⟨gb230, 5, none⟩) (by first | (rw [jK]; exact hn231_5) | (show (Addr.add _ _).block ≠ _; rw [jK]; exact hn231_5) | exact hn231_5) (.int .i64 ((rd_T65 l0 x11_1).f5))).trans hx231_0; replace hx231_0 := (jX (p := ⟨gb230, 6, none⟩) (by first | (rw [jK]; exact hn231_6) | (show (Addr.add _ _).block ≠ _; rw [jK]; exact hn231_6) | exact hn231_6) (.int .i64 ((rd_T65 l0 x11_1).f6))).trans hx231_0; replace hx231_0 := (jX (p := ⟨gb230, 7, none⟩) (by first | (rw [jK]; exact hn231_7) | (show (Addr.add _ _).block ≠ _; rw [jK]; exact hn231_7) | exact hn231_7) (.int .i64 ((rd_T65 l0 x11_1).f7))).trans hx231_0; replace hx231_0 := (jX (p := ⟨gb230, 8, none⟩) (by first | (rw [jK]; exact hn231_8) | (show (Addr.add _ _).block ≠ _; rw [jK]; exact hn231_8) | exact hn231_8) (.int .i64 ((rd_T65 l0 x11_1).f8))).trans hx231_0; clear hn231_0; clear hn231_1; clear hn231_2; clear hn231_3; clear hn231_4; clear hn231_5; clear hn231_6; clear hn231_7; clear hn231_8; replace p231 := eq_true p231; replace q231 := eq_true q231))
          go_roundg k1
          case measure => have := HK1.out; omega
          case rel => exact ⟨((((rd_T65 l0 x11_1).f8) == 3)), ((((rd_T65 l0 x11_1).f8) != 3)), (wrap64 (x11_1 + 1)), zz, zz, zz, H', ⟨by have := HK1.out; omega⟩, ⟨by (with_reducible repeat (first | refine jG ?_ _ | refine jI ?_ | refine jH ?_ _)); refine ja ?_ NB228_230.out _; (with_reducible repeat (first | refine jG ?_ _ | refine jI ?_ | refine jH ?_ _)); refine ja ?_ NB228_230.out _; (with_reducible repeat (first | refine jG ?_ _ | refine jI ?_ | refine jH ?_ _)); refine ja ?_ NB228_230.out _; (with_reducible repeat (first | refine jG ?_ _ | refine jI ?_ | refine jH ?_ _)); refine ja ?_ NB228_230.out _; (with_reducible repeat (first | refine jG ?_ _ | refine jI ?_ | refine jH ?_ _)); refine ja ?_ NB228_230.out _; (with_reducible repeat (first | refine jG ?_ _ | refine jI ?_ | refine jH ?_ _)); refine ja ?_ NB228_230.out _; (with_reducible repeat (first | refine jG ?_ _ | refine jI ?_ | refine jH ?_ _)); refine ja ?_ NB228_230.out _; (with_reducible repeat (first | refine jG ?_ _ | refine jI ?_ | refine jH ?_ _)); refine ja ?_ NB228_230.out _; (with_reducible repeat (first | refine jG ?_ _ | refine jI ?_ | refine jH ?_ _)); refine ja ?_ NB228_230.out _; (with_reducible repeat (first | refine jG ?_ _ | refine jI ?_ | refine jH ?_ _)); exact BK228.out⟩, ⟨zb2 HB GE228 GE230⟩⟩
       ·rw [if_neg c8] at H
        have c8b0 : decide (0 < (rd l1_1 x11_1)) = false := jY c8
        clear c8
        have H' := jA H
        clear H
        have p229 : 0 ≤ (x11_1 : Int) := jE za
        have q229 : x11_1 < (l0.length : Int) := jE za
        obtain ⟨ad229, e229, hx229_0, hx229_1, hx229_2, hx229_3, hx229_4, hx229_5, hx229_6, hx229_7, hx229_8⟩ := at_T65 HR0.out x11_1 p229 q229
        cases e229
        replace hx229_0 := (HB.out.cell (jB w _ hx229_0)).trans hx229_0
        replace hx229_1 := (HB.out.cell (jB w _ hx229_1)).trans hx229_1
        replace hx229_2 := (HB.out.cell (jB w _ hx229_2)).trans hx229_2
        replace hx229_3 := (HB.out.cell (jB w _ hx229_3)).trans hx229_3
        replace hx229_4 := (HB.out.cell (jB w _ hx229_4)).trans hx229_4
        replace hx229_5 := (HB.out.cell (jB w _ hx229_5)).trans hx229_5
        replace hx229_6 := (HB.out.cell (jB w _ hx229_6)).trans hx229_6
        replace hx229_7 := (HB.out.cell (jB w _ hx229_7)).trans hx229_7
        replace hx229_8 := (HB.out.cell (jB w _ hx229_8)).trans hx229_8
        replace p229 := eq_true p229
        replace q229 := eq_true q229
        go_wp2_with (first | ((with_reducible refine jV (N := 8) rfl ?_); refine jU ?hg (N := 8) ?hd (cs := #[.string (⟨#[]⟩ : ByteArray), .int .i64 0, .int .i64 0, .int .i64 0, .int .i64 0, .int .i64 0, .int .i64 0, .int .i64 0, .int .i64 0]) (t := 65) ?hr ?_; (case hd => rfl); (case hg => rfl); (case hr => first | (go_simp; done) | (go_simp; rfl)); intro gb230 hg w28 hbox hb; have n0_ := jA (jO (g := gb228) (o := .cells #[.int .i64 a1_0, .slice A1_1 l1_1.length c1_1] 28 (0, 0)) (zk BK228) hb); have n1_ := jA (jJ (zb1 HB GE228) hb); have n2_ := jA (hbox); have n3_ := jA ((by rw [hg]; exact (jF (zb1 HB GE228)) : w.heap.size ≤ gb230)); have n4_ := jA ((by rw [hg]; exact (jF (zb1 HB GE228)) : w.heap.size ≤ gb230)); have n5_ := jA ((by rw [hg]; exact jN (blk_lt (g := gb228) (o := .cells #[.int .i64 a1_0, .slice A1_1 l1_1.length c1_1] 28 (0, 0)) (zk BK228)) : gb228 ≠ gb230)); have n6_ := jA n5_.out.symm; clear BK228; clear HB; have BK228 := n0_; have HB := n1_; have BK230 := n2_; have GW230 := n3_; have GE230 := n4_; have NB228_230 := n5_; have NB230_228 := n6_; clear n0_ n1_ n2_ n3_ n4_ n5_ n6_; clear hb hbox hg; have hnb29 := NB230_228.out; have hnc29 := NB228_230.out; have hcz30_0 : w28.cell? ⟨gb230, 0, none⟩ = some (.string (⟨#[]⟩ : ByteArray)) := (jD BK230.out 0).trans rfl; have hcz30_1 : w28.cell? ⟨gb230, 1, none⟩ = some (.int .i64 0) := (jD BK230.out 1).trans rfl; have hcz30_2 : w28.cell? ⟨gb230, 2, none⟩ = some (.int .i64 0) := (jD BK230.out 2).trans rfl; have hcz30_3 : w28.cell? ⟨gb230, 3, none⟩ = some (.int .i64 0) := (jD BK230.out 3).trans rfl; have hcz30_4 : w28.cell? ⟨gb230, 4, none⟩ = some (.int .i64 0) := (jD BK230.out 4).trans rfl; have hcz30_5 : w28.cell? ⟨gb230, 5, none⟩ = some (.int .i64 0) := (jD BK230.out 5).trans rfl; have hcz30_6 : w28.cell? ⟨gb230, 6, none⟩ = some (.int .i64 0) := (jD BK230.out 6).trans rfl; have hcz30_7 : w28.cell? ⟨gb230, 7, none⟩ = some (.int .i64 0) := (jD BK230.out 7).trans rfl; have hcz30_8 : w28.cell? ⟨gb230, 8, none⟩ = some (.int .i64 0) := (jD BK230.out 8).trans rfl; have hfz30_0 := jC BK230.out 0; have hfz30_1 := jC BK230.out 1; have hfz30_2 := jC BK230.out 2; have hfz30_3 := jC BK230.out 3; have hfz30_4 := jC BK230.out 4; have hfz30_5 := jC BK230.out 5; have hfz30_6 := jC BK230.out 6; have hfz30_7 := jC BK230.out 7; have hfz30_8 := jC BK230.out 8; have hcz31_0 : w28.cell? ⟨gb228, 0, none⟩ = some (.int .i64 a1_0) := (jD BK228.out 0).trans rfl; have hcz31_1 : w28.cell? ⟨gb228, 1, none⟩ = some (.slice A1_1 l1_1.length c1_1) := (jD BK228.out 1).trans rfl; have hfz31_0 := jC BK228.out 0; have hfz31_1 := jC BK228.out 1; have p231 : 0 ≤ (x11_1 : Int) := jE za; have q231 : x11_1 < (l1_1.length : Int) := jE za; obtain ⟨ad231, e231, hx231_0⟩ := Kd.at_int HR1_1.out x11_1 p231 q231; cases e231; have hn231_0 : ad231.block ≠ gb230 := jN (jR (by have := jB _ _ hx231_0; first | rwa [jK] at this | exact this) GW230.out); have hn231_1 : ad231.block ≠ gb230 := jN (jR (by have := jB _ _ hx231_0; first | rwa [jK] at this | exact this) GW230.out); have hn231_2 : ad231.block ≠ gb230 := jN (jR (by have := jB _ _ hx231_0; first | rwa [jK] at this | exact this) GW230.out); have hn231_3 : ad231.block ≠ gb230 := jN (jR (by have := jB _ _ hx231_0; first | rwa [jK] at this | exact this) GW230.out); have hn231_4 : ad231.block ≠ gb230 := jN (jR (by have := jB _ _ hx231_0; first | rwa [jK] at this | exact this) GW230.out); have hn231_5 : ad231.block ≠ gb230 := jN (jR (by have := jB _ _ hx231_0; first | rwa [jK] at this | exact this) GW230.out); have hn231_6 : ad231.block ≠ gb230 := jN (jR (by have := jB _ _ hx231_0; first | rwa [jK] at this | exact this) GW230.out); have hn231_7 : ad231.block ≠ gb230 := jN (jR (by have := jB _ _ hx231_0; first | rwa [jK] at this | exact this) GW230.out); have hn231_8 : ad231.block ≠ gb230 := jN (jR (by have := jB _ _ hx231_0; first | rwa [jK] at this | exact this) GW230.out); replace hx231_0 := (HB.out.cell (jB w _ hx231_0)).trans hx231_0; replace hx231_0 := (jX (p := ⟨gb230, 0, none⟩) (by first | (rw [jK]; exact hn231_0) | (show (Addr.add _ _).block ≠ _; rw [jK]; exact hn231_0) | exact hn231_0) (.string ((rd_T65 l0 x11_1).f0))).trans hx231_0; replace hx231_0 := (jX (p := ⟨gb230, 1, none⟩) (by first | (rw [jK]; exact hn231_1) | (show (Addr.add _ _).block ≠ _; rw [jK]; exact hn231_1) | exact hn231_1) (.int .i64 ((rd_T65 l0 x11_1).f1))).trans hx231_0; replace hx231_0 := (jX (p := ⟨gb230, 2, none⟩) (by first | (rw [jK]; exact hn231_2) | (show (Addr.add _ _).block ≠ _; rw [jK]; exact hn231_2) | exact hn231_2) (.int .i64 ((rd_T65 l0 x11_1).f2))).trans hx231_0; replace hx231_0 := (jX (p := ⟨gb230, 3, none⟩) (by first | (rw [jK]; exact hn231_3) | (show (Addr.add _ _).block ≠ _; rw [jK]; exact hn231_3) | exact hn231_3) (.int .i64 ((rd_T65 l0 x11_1).f3))).trans hx231_0; replace hx231_0 := (jX (p := ⟨gb230, 4, none⟩) (by first | (rw [jK]; exact hn231_4) | (show (Addr.add _ _).block ≠ _; rw [jK]; exact hn231_4) | exact hn231_4) (.int .i64 ((rd_T65 l0 x11_1).f4))).trans hx231_0; replace hx231_0 := (jX (p := ⟨gb230, 5, none⟩) (by first | (rw [jK]; exact hn231_5) | (show (Addr.add _ _).block ≠ _; rw [jK]; exact hn231_5) | exact hn231_5) (.int .i64 ((rd_T65 l0 x11_1).f5))).trans hx231_0; replace hx231_0 := (jX (p := ⟨gb230, 6, none⟩) (by first | (rw [jK]; exact hn231_6) | (show (Addr.add _ _).block ≠ _; rw [jK]; exact hn231_6) | exact hn231_6) (.int .i64 ((rd_T65 l0 x11_1).f6))).trans hx231_0; replace hx231_0 := (jX (p := ⟨gb230, 7, none⟩) (by first | (rw [jK]; exact hn231_7) | (show (Addr.add _ _).block ≠ _; rw [jK]; exact hn231_7) | exact hn231_7) (.int .i64 ((rd_T65 l0 x11_1).f7))).trans hx231_0; replace hx231_0 := (jX (p := ⟨gb230, 8, none⟩) (by first | (rw [jK]; exact hn231_8) | (show (Addr.add _ _).block ≠ _; rw [jK]; exact hn231_8) | exact hn231_8) (.int .i64 ((rd_T65 l0 x11_1).f8))).trans hx231_0; clear hn231_0; clear hn231_1; clear hn231_2; clear hn231_3; clear hn231_4; clear hn231_5; clear hn231_6; clear hn231_7; clear hn231_8; replace p231 := eq_true p231; replace q231 := eq_true q231))
        go_roundg k1
        case measure => have := HK1.out; omega
        case rel => exact ⟨(x5_1), (x6_1), (wrap64 (x11_1 + 1)), zz, zz, zz, H', ⟨by have := HK1.out; omega⟩, ⟨by (with_reducible repeat (first | refine jG ?_ _ | refine jI ?_ | refine jH ?_ _)); refine ja ?_ NB228_230.out _; (with_reducible repeat (first | refine jG ?_ _ | refine jI ?_ | refine jH ?_ _)); refine ja ?_ NB228_230.out _; (with_reducible repeat (first | refine jG ?_ _ | refine jI ?_ | refine jH ?_ _)); refine ja ?_ NB228_230.out _; (with_reducible repeat (first | refine jG ?_ _ | refine jI ?_ | refine jH ?_ _)); refine ja ?_ NB228_230.out _; (with_reducible repeat (first | refine jG ?_ _ | refine jI ?_ | refine jH ?_ _)); refine ja ?_ NB228_230.out _; (with_reducible repeat (first | refine jG ?_ _ | refine jI ?_ | refine jH ?_ _)); refine ja ?_ NB228_230.out _; (with_reducible repeat (first | refine jG ?_ _ | refine jI ?_ | refine jH ?_ _)); refine ja ?_ NB228_230.out _; (with_reducible repeat (first | refine jG ?_ _ | refine jI ?_ | refine jH ?_ _)); refine ja ?_ NB228_230.out _; (with_reducible repeat (first | refine jG ?_ _ | refine jI ?_ | refine jH ?_ _)); refine ja ?_ NB228_230.out _; (with_reducible repeat (first | refine jG ?_ _ | refine jI ?_ | refine jH ?_ _)); exact BK228.out⟩, ⟨zb2 HB GE228 GE230⟩⟩
      ·rw [if_neg c7] at H
       exact absurd H (by simp)
     ·rw [if_neg c6] at H
      exact absurd H (by simp)
    ·rw [if_neg c5] at H
     exact absurd H (by simp)
   ·rw [if_neg c4] at H
    have c4b0 : decide (x11_1 < (l0.length : Int)) = false := jY c4
    clear c4
    by_cases c32 : x5_1 = true
    ·subst c32
     have H1 : (some x6_1) = some r := by rw [if_pos rfl] at H; exact H
     clear H
     have H := H1
     clear H1
     obtain rfl := jM H
     go_wp2
     go_ret
     exact ⟨by first | rfl | (simp [errW_none, errW_some] <;> rfl) | (simp [*, errW_none, errW_some] <;> rfl), zb1 HB GE228⟩
    ·replace c32 := Bool.eq_false_iff.mpr c32
     subst c32
     have H1 : (some false) = some r := by rw [if_neg (show ¬ (false = true) by decide)] at H; exact H
     clear H
     have H := H1
     clear H1
     obtain rfl := jM H
     go_wp2
     go_ret
     exact ⟨by first | rfl | (simp [errW_none, errW_some] <;> rfl) | (simp [*, errW_none, errW_some] <;> rfl), zb1 HB GE228⟩

end Go.Proofs.Ytdgglhfnlljmeaa.PFnExactStorePieces
