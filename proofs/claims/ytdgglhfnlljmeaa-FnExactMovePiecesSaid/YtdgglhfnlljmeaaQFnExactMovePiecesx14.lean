/- Functions and contracts that FnExactMovePieces reaches (15 of 24). -/
import Derived.Test.YtdgglhfnlljmeaaQFnExactMovePiecesx13
namespace Go.Proofs.Ytdgglhfnlljmeaa.PFnExactMovePieces
open Go.RowKit Go.Proofs.YtdgglhfnlljmeaaW.PrintWords Go.Proofs.YtdgglhfnlljmeaaW.PrintLast Go.Proofs.YtdgglhfnlljmeaaW.PrintMore
attribute [local go_sem] max2_int min2_int max_two min_two max_three min_three max_four min_four   -- for this text's walks alone
set_option linter.unusedVariables false
set_option linter.unusedSimpArgs false
open Go.Proofs.YtdgglhfnlljmeaaX

/-! ### impl_netIn: function 64 -/
def impl_netIn.l0 : Nat → Int → List (S65) → Int → Int → Int → List Int → Option (Int)
 | 0, _, _, _, _, _, _ => none
 | k + 1, x5, x8, x9, x10, x291000, x291001 => if x10 < x9 then (if 0 ≤ x10 then (if x10 < (x8.length : Int) then (if x10 < (x291001.length : Int) then (impl_netIn.l0 k (wrap64 (x5 + (wrap64 (((rd_T65 x8 x10).f7) * (rd x291001 x10))))) x8 x9 (wrap64 (x10 + 1)) x291000 x291001) else (none)) else (none)) else (none)) else (some x5)
def impl_netIn.f (k : Nat) (l0 : List (S65)) (a1_0 : Int) (l1_1 : List Int) : Option (Int) := impl_netIn.l0 k 0 l0 (l0.length : Int) 0 a1_0 l1_1
theorem impl_netIn.mono_l : ∀ k, (∀ y0 y1 y2 y3 y4 y5, LeO (impl_netIn.l0 k y0 y1 y2 y3 y4 y5) (impl_netIn.l0 (k + 1) y0 y1 y2 y3 y4 y5))
 | 0 => fun _ _ _ _ _ _ r h => by simp [impl_netIn.l0] at h
 | k + 1 => by
  have ih0 := impl_netIn.mono_l k
  ·intro y0 y1 y2 y3 y4 y5
   unfold impl_netIn.l0
   repeat' first
   | (with_reducible exact ih0 _ _ _ _ _ _)
   | (with_reducible exact LeO.refl _)
   | (with_reducible exact LeO.none _)
   | (with_reducible refine LeO.ite ?_ ?_)
   | (with_reducible refine LeO.bind ?_ (fun _ => ?_))
   | exact ih0 _ _ _ _ _ _
   | exact LeO.none _
   | refine LeO.ite ?_ ?_
   | refine LeO.bind ?_ (fun _ => ?_)
theorem impl_netIn.mono : ∀ a0 a1 a2 k, LeO (impl_netIn.f k a0 a1 a2) (impl_netIn.f (k + 1) a0 a1 a2) := by
 intro a0 a1 a2 k
 have ih0 := impl_netIn.mono_l k
 unfold impl_netIn.f
 repeat' first
   | (with_reducible exact ih0 _ _ _ _ _ _)
   | (with_reducible exact LeO.refl _)
   | (with_reducible exact LeO.none _)
   | (with_reducible refine LeO.ite ?_ ?_)
   | (with_reducible refine LeO.bind ?_ (fun _ => ?_))
   | exact ih0 _ _ _ _ _ _
   | exact LeO.none _
   | refine LeO.ite ?_ ?_
   | refine LeO.bind ?_ (fun _ => ?_)
set_option maxHeartbeats 8000000 in
set_option maxRecDepth 100000 in
theorem impl_netIn.calls (k : Nat) (A0 : Option Addr) (c0 : Nat) (l0 : List (S65)) (a1_0 : Int) (A1_1 : Option Addr) (c1_1 : Nat) (l1_1 : List Int) (r : Int) (w : World) (hr0 : Kd.C k65 w A0 l0.length l0) (hc0 : l0.length ≤ c0) (hr1_1 : Kd.C (Kd.int .i64) w A1_1 l1_1.length l1_1) (hc1_1 : l1_1.length ≤ c1_1) (h : impl_netIn.f k l0 a1_0 l1_1 = some r) :
  Calls Try.prog 64 #[.slice A0 l0.length c0, .agg #[.int .i64 a1_0, .slice A1_1 l1_1.length c1_1]] w fun e w' => e = .returned (.int .i64 r) ∧ Below w.heap.size w w' := by
 have hu28 := Try.underlying28
 have hu65 := Try.underlying65
 have HR0 := jA hr0
 have HC0 := jA hc0
 clear hr0 hc0
 have HR1_1 := jA hr1_1
 have HC1_1 := jA hc1_1
 clear hr1_1 hc1_1
 have HB := jA (Below.refl w.heap.size w)
 have H : (impl_netIn.l0 k 0 l0 (l0.length : Int) 0 a1_0 l1_1) = some r := h
 clear h
 have H' := jA H
 clear H
 go_enter Try.func64, Try.ntmps64
 go_wp2_with (first | ((with_reducible refine jJ (N := 3) rfl ?_); refine zE 3 #[.int .i64 a1_0, .slice A1_1 l1_1.length c1_1] 28 ?_; intro gb290 hg w3 hbox hb; have BK290 := jA (hbox); have GW290 := zg0 hg HB; have GE290 := zg0 hg HB; replace HB := zS0 HB hb; clear hb hbox hg))
 repeat (go_quiet (first | ((with_reducible refine jJ (N := 3) rfl ?_); refine zE 3 #[.int .i64 a1_0, .slice A1_1 l1_1.length c1_1] 28 ?_; intro gb290 hg w3 hbox hb; have BK290 := jA (hbox); have GW290 := zg0 hg HB; have GE290 := zg0 hg HB; replace HB := zS0 HB hb; clear hb hbox hg)); try go_wp2_with (first | ((with_reducible refine jJ (N := 3) rfl ?_); refine zE 3 #[.int .i64 a1_0, .slice A1_1 l1_1.length c1_1] 28 ?_; intro gb290 hg w3 hbox hb; have BK290 := jA (hbox); have GW290 := zg0 hg HB; have GE290 := zg0 hg HB; replace HB := zS0 HB hb; clear hb hbox hg)))
 go_loopg [5, 10] k (fun kq v5 v10 w' => ∃ (x5_1 : Int) (x10_1 : Int), v5 = .int .i64 x5_1 ∧ v10 = .int .i64 x10_1 ∧ Aside0 (impl_netIn.l0 kq x5_1 l0 (l0.length : Int) x10_1 a1_0 l1_1 = some r) ∧ Aside0 (kq ≤ k) ∧ Aside0 (w'.heap[gb290]? = some (.cells #[.int .i64 a1_0, (.slice A1_1 l1_1.length c1_1)] 28 (0, 0))) ∧ Aside0 (Below w.heap.size w w'))
 case atStart => exact ⟨(0), (0), zz, zz, H', ⟨Nat.le_refl _⟩, ⟨zk BK290⟩, ⟨zb1 HB GE290⟩⟩
 case round =>
  clear H'
  try clear c1
  try clear p2
  obtain ⟨x5_1, x10_1, rfl, rfl, HA, HK1, BK290, HB⟩ := hrel
  cases gk with
  | zero => exact absurd HA.out (by simp [impl_netIn.l0])
  | succ k1 =>
   have H := HA.out
   clear HA
   simp only [impl_netIn.l0] at H
   by_cases c4 : x10_1 < (l0.length : Int)
   ·rw [if_pos c4] at H
    have c4b0 : decide (x10_1 < (l0.length : Int)) = true := jI c4
    clear c4
    by_cases c5 : 0 ≤ x10_1
    ·rw [if_pos c5] at H
     have c5b0 : decide (0 ≤ x10_1) = true := jI c5
     clear c5
     by_cases c6 : x10_1 < (l0.length : Int)
     ·rw [if_pos c6] at H
      have c6b0 : decide (x10_1 < (l0.length : Int)) = true := jI c6
      clear c6
      by_cases c7 : x10_1 < (l1_1.length : Int)
      ·rw [if_pos c7] at H
       have c7b0 : decide (x10_1 < (l1_1.length : Int)) = true := jI c7
       clear c7
       have H' := jA H
       clear H
       have p291 : 0 ≤ (x10_1 : Int) := jB za
       have q291 : x10_1 < (l0.length : Int) := jB za
       obtain ⟨ad291, e291, hx291_0, hx291_1, hx291_2, hx291_3, hx291_4, hx291_5, hx291_6, hx291_7, hx291_8⟩ := at_T65 HR0.out x10_1 p291 q291
       cases e291
       replace hx291_0 := zx HB hx291_0
       replace hx291_1 := zx HB hx291_1
       replace hx291_2 := zx HB hx291_2
       replace hx291_3 := zx HB hx291_3
       replace hx291_4 := zx HB hx291_4
       replace hx291_5 := zx HB hx291_5
       replace hx291_6 := zx HB hx291_6
       replace hx291_7 := zx HB hx291_7
       replace hx291_8 := zx HB hx291_8
       replace p291 := eq_true p291
       replace q291 := eq_true q291
       go_wp2_with (first | ((with_reducible refine jJ (N := 7) rfl ?_); refine zE 7 #[.string (⟨#[]⟩ : ByteArray), .int .i64 0, .int .i64 0, .int .i64 0, .int .i64 0, .int .i64 0, .int .i64 0, .int .i64 0, .int .i64 0] 65 ?_; intro gb292 hg w8 hbox hb; have BK292 := jA (hbox); have GW292 := zg1 hg HB GE290; have GE292 := zg1 hg HB GE290; replace HB := zS1 HB GE290 hb; have NB290_292 := zn hg BK290; replace BK290 := zB BK290 hb; have NB292_290 := jA NB290_292.out.symm; clear hb hbox hg; have hnb9 := NB292_290.out; have hnc9 := NB290_292.out; have hcz10 := zc9 BK292; have hcz11 := zc2 BK290; have p293 : 0 ≤ (x10_1 : Int) := jB za; have q293 : x10_1 < (l1_1.length : Int) := jB za; obtain ⟨ad293, e293, hx293_0⟩ := Kd.at_int HR1_1.out x10_1 p293 q293; cases e293; have hn293_0 : ad293.block ≠ gb292 := zd hx293_0 GW292; have hn293_1 : ad293.block ≠ gb292 := zd hx293_0 GW292; have hn293_2 : ad293.block ≠ gb292 := zd hx293_0 GW292; have hn293_3 : ad293.block ≠ gb292 := zd hx293_0 GW292; have hn293_4 : ad293.block ≠ gb292 := zd hx293_0 GW292; have hn293_5 : ad293.block ≠ gb292 := zd hx293_0 GW292; have hn293_6 : ad293.block ≠ gb292 := zd hx293_0 GW292; have hn293_7 : ad293.block ≠ gb292 := zd hx293_0 GW292; have hn293_8 : ad293.block ≠ gb292 := zd hx293_0 GW292; replace hx293_0 := zx HB hx293_0; replace hx293_0 := (jL (p := ⟨gb292, 0, none⟩) (zf hn293_0) (.string ((rd_T65 l0 x10_1).f0))).trans hx293_0; replace hx293_0 := (jL (p := ⟨gb292, 1, none⟩) (zf hn293_1) (.int .i64 ((rd_T65 l0 x10_1).f1))).trans hx293_0; replace hx293_0 := (jL (p := ⟨gb292, 2, none⟩) (zf hn293_2) (.int .i64 ((rd_T65 l0 x10_1).f2))).trans hx293_0; replace hx293_0 := (jL (p := ⟨gb292, 3, none⟩) (zf hn293_3) (.int .i64 ((rd_T65 l0 x10_1).f3))).trans hx293_0; replace hx293_0 := (jL (p := ⟨gb292, 4, none⟩) (zf hn293_4) (.int .i64 ((rd_T65 l0 x10_1).f4))).trans hx293_0; replace hx293_0 := (jL (p := ⟨gb292, 5, none⟩) (zf hn293_5) (.int .i64 ((rd_T65 l0 x10_1).f5))).trans hx293_0; replace hx293_0 := (jL (p := ⟨gb292, 6, none⟩) (zf hn293_6) (.int .i64 ((rd_T65 l0 x10_1).f6))).trans hx293_0; replace hx293_0 := (jL (p := ⟨gb292, 7, none⟩) (zf hn293_7) (.int .i64 ((rd_T65 l0 x10_1).f7))).trans hx293_0; replace hx293_0 := (jL (p := ⟨gb292, 8, none⟩) (zf hn293_8) (.int .i64 ((rd_T65 l0 x10_1).f8))).trans hx293_0; clear hn293_0; clear hn293_1; clear hn293_2; clear hn293_3; clear hn293_4; clear hn293_5; clear hn293_6; clear hn293_7; clear hn293_8; replace p293 := eq_true p293; replace q293 := eq_true q293))
       repeat (go_quiet (first | ((with_reducible refine jJ (N := 7) rfl ?_); refine zE 7 #[.string (⟨#[]⟩ : ByteArray), .int .i64 0, .int .i64 0, .int .i64 0, .int .i64 0, .int .i64 0, .int .i64 0, .int .i64 0, .int .i64 0] 65 ?_; intro gb292 hg w8 hbox hb; have BK292 := jA (hbox); have GW292 := zg1 hg HB GE290; have GE292 := zg1 hg HB GE290; replace HB := zS1 HB GE290 hb; have NB290_292 := zn hg BK290; replace BK290 := zB BK290 hb; have NB292_290 := jA NB290_292.out.symm; clear hb hbox hg; have hnb9 := NB292_290.out; have hnc9 := NB290_292.out; have hcz10 := zc9 BK292; have hcz11 := zc2 BK290; have p293 : 0 ≤ (x10_1 : Int) := jB za; have q293 : x10_1 < (l1_1.length : Int) := jB za; obtain ⟨ad293, e293, hx293_0⟩ := Kd.at_int HR1_1.out x10_1 p293 q293; cases e293; have hn293_0 : ad293.block ≠ gb292 := zd hx293_0 GW292; have hn293_1 : ad293.block ≠ gb292 := zd hx293_0 GW292; have hn293_2 : ad293.block ≠ gb292 := zd hx293_0 GW292; have hn293_3 : ad293.block ≠ gb292 := zd hx293_0 GW292; have hn293_4 : ad293.block ≠ gb292 := zd hx293_0 GW292; have hn293_5 : ad293.block ≠ gb292 := zd hx293_0 GW292; have hn293_6 : ad293.block ≠ gb292 := zd hx293_0 GW292; have hn293_7 : ad293.block ≠ gb292 := zd hx293_0 GW292; have hn293_8 : ad293.block ≠ gb292 := zd hx293_0 GW292; replace hx293_0 := zx HB hx293_0; replace hx293_0 := (jL (p := ⟨gb292, 0, none⟩) (zf hn293_0) (.string ((rd_T65 l0 x10_1).f0))).trans hx293_0; replace hx293_0 := (jL (p := ⟨gb292, 1, none⟩) (zf hn293_1) (.int .i64 ((rd_T65 l0 x10_1).f1))).trans hx293_0; replace hx293_0 := (jL (p := ⟨gb292, 2, none⟩) (zf hn293_2) (.int .i64 ((rd_T65 l0 x10_1).f2))).trans hx293_0; replace hx293_0 := (jL (p := ⟨gb292, 3, none⟩) (zf hn293_3) (.int .i64 ((rd_T65 l0 x10_1).f3))).trans hx293_0; replace hx293_0 := (jL (p := ⟨gb292, 4, none⟩) (zf hn293_4) (.int .i64 ((rd_T65 l0 x10_1).f4))).trans hx293_0; replace hx293_0 := (jL (p := ⟨gb292, 5, none⟩) (zf hn293_5) (.int .i64 ((rd_T65 l0 x10_1).f5))).trans hx293_0; replace hx293_0 := (jL (p := ⟨gb292, 6, none⟩) (zf hn293_6) (.int .i64 ((rd_T65 l0 x10_1).f6))).trans hx293_0; replace hx293_0 := (jL (p := ⟨gb292, 7, none⟩) (zf hn293_7) (.int .i64 ((rd_T65 l0 x10_1).f7))).trans hx293_0; replace hx293_0 := (jL (p := ⟨gb292, 8, none⟩) (zf hn293_8) (.int .i64 ((rd_T65 l0 x10_1).f8))).trans hx293_0; clear hn293_0; clear hn293_1; clear hn293_2; clear hn293_3; clear hn293_4; clear hn293_5; clear hn293_6; clear hn293_7; clear hn293_8; replace p293 := eq_true p293; replace q293 := eq_true q293)); try go_wp2_with (first | ((with_reducible refine jJ (N := 7) rfl ?_); refine zE 7 #[.string (⟨#[]⟩ : ByteArray), .int .i64 0, .int .i64 0, .int .i64 0, .int .i64 0, .int .i64 0, .int .i64 0, .int .i64 0, .int .i64 0] 65 ?_; intro gb292 hg w8 hbox hb; have BK292 := jA (hbox); have GW292 := zg1 hg HB GE290; have GE292 := zg1 hg HB GE290; replace HB := zS1 HB GE290 hb; have NB290_292 := zn hg BK290; replace BK290 := zB BK290 hb; have NB292_290 := jA NB290_292.out.symm; clear hb hbox hg; have hnb9 := NB292_290.out; have hnc9 := NB290_292.out; have hcz10 := zc9 BK292; have hcz11 := zc2 BK290; have p293 : 0 ≤ (x10_1 : Int) := jB za; have q293 : x10_1 < (l1_1.length : Int) := jB za; obtain ⟨ad293, e293, hx293_0⟩ := Kd.at_int HR1_1.out x10_1 p293 q293; cases e293; have hn293_0 : ad293.block ≠ gb292 := zd hx293_0 GW292; have hn293_1 : ad293.block ≠ gb292 := zd hx293_0 GW292; have hn293_2 : ad293.block ≠ gb292 := zd hx293_0 GW292; have hn293_3 : ad293.block ≠ gb292 := zd hx293_0 GW292; have hn293_4 : ad293.block ≠ gb292 := zd hx293_0 GW292; have hn293_5 : ad293.block ≠ gb292 := zd hx293_0 GW292; have hn293_6 : ad293.block ≠ gb292 := zd hx293_0 GW292; have hn293_7 : ad293.block ≠ gb292 := zd hx293_0 GW292; have hn293_8 : ad293.block ≠ gb292 := zd hx293_0 GW292; replace hx293_0 := zx HB hx293_0; replace hx293_0 := (jL (p := ⟨gb292, 0, none⟩) (zf hn293_0) (.string ((rd_T65 l0 x10_1).f0))).trans hx293_0; replace hx293_0 := (jL (p := ⟨gb292, 1, none⟩) (zf hn293_1) (.int .i64 ((rd_T65 l0 x10_1).f1))).trans hx293_0; replace hx293_0 := (jL (p := ⟨gb292, 2, none⟩) (zf hn293_2) (.int .i64 ((rd_T65 l0 x10_1).f2))).trans hx293_0; replace hx293_0 := (jL (p := ⟨gb292, 3, none⟩) (zf hn293_3) (.int .i64 ((rd_T65 l0 x10_1).f3))).trans hx293_0; replace hx293_0 := (jL (p := ⟨gb292, 4, none⟩) (zf hn293_4) (.int .i64 ((rd_T65 l0 x10_1).f4))).trans hx293_0; replace hx293_0 := (jL (p := ⟨gb292, 5, none⟩) (zf hn293_5) (.int .i64 ((rd_T65 l0 x10_1).f5))).trans hx293_0; replace hx293_0 := (jL (p := ⟨gb292, 6, none⟩) (zf hn293_6) (.int .i64 ((rd_T65 l0 x10_1).f6))).trans hx293_0; replace hx293_0 := (jL (p := ⟨gb292, 7, none⟩) (zf hn293_7) (.int .i64 ((rd_T65 l0 x10_1).f7))).trans hx293_0; replace hx293_0 := (jL (p := ⟨gb292, 8, none⟩) (zf hn293_8) (.int .i64 ((rd_T65 l0 x10_1).f8))).trans hx293_0; clear hn293_0; clear hn293_1; clear hn293_2; clear hn293_3; clear hn293_4; clear hn293_5; clear hn293_6; clear hn293_7; clear hn293_8; replace p293 := eq_true p293; replace q293 := eq_true q293)))
       go_roundg k1
       case measure => have := HK1.out; omega
       case rel => exact ⟨(wrap64 (x5_1 + (wrap64 (((rd_T65 l0 x10_1).f7) * (rd l1_1 x10_1))))), (wrap64 (x10_1 + 1)), zz, zz, H', ⟨by have := HK1.out; omega⟩, ⟨zQ1 BK290 NB290_292⟩, ⟨zb2 HB GE290 GE292⟩⟩
      ·rw [if_neg c7] at H
       exact absurd H (by simp)
     ·rw [if_neg c6] at H
      exact absurd H (by simp)
    ·rw [if_neg c5] at H
     exact absurd H (by simp)
   ·rw [if_neg c4] at H
    have c4b0 : decide (x10_1 < (l0.length : Int)) = false := jM c4
    clear c4
    obtain rfl := jH H
    go_wp2
    repeat (go_quiet (fail); try go_wp2)
    go_ret
    exact ⟨ze, zb1 HB GE290⟩

end Go.Proofs.Ytdgglhfnlljmeaa.PFnExactMovePieces
