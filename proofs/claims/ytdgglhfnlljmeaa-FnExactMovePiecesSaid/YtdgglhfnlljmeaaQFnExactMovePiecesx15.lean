/- Functions and contracts that FnExactMovePieces reaches (16 of 24). -/
import Derived.Test.YtdgglhfnlljmeaaQFnExactMovePiecesx14
namespace Go.Proofs.Ytdgglhfnlljmeaa.PFnExactMovePieces
open Go.RowKit Go.Proofs.YtdgglhfnlljmeaaW.PrintWords Go.Proofs.YtdgglhfnlljmeaaW.PrintLast Go.Proofs.YtdgglhfnlljmeaaW.PrintMore
attribute [local go_sem] max2_int min2_int max_two min_two max_three min_three max_four min_four   -- for this text's walks alone
set_option linter.unusedVariables false
set_option linter.unusedSimpArgs false
open Go.Proofs.YtdgglhfnlljmeaaX

/-! ### impl_isMixed: function 68 -/
def impl_isMixed.l0 : Nat → Bool → Bool → List (S65) → Int → Int → Int → List Int → Option (Bool)
 | 0, _, _, _, _, _, _, _ => none
 | k + 1, x5, x6, x9, x10, x11, x295000, x295001 => if x11 < x10 then (if 0 ≤ x11 then (if x11 < (x9.length : Int) then (if x11 < (x295001.length : Int) then (if (rd x295001 x11) > 0 then (if x5 = true then (if x6 = true then (impl_isMixed.l0 k true true x9 x10 (wrap64 (x11 + 1)) x295000 x295001) else (impl_isMixed.l0 k true (((rd_T65 x9 x11).f8) != 3) x9 x10 (wrap64 (x11 + 1)) x295000 x295001)) else (if x6 = true then (impl_isMixed.l0 k (((rd_T65 x9 x11).f8) == 3) true x9 x10 (wrap64 (x11 + 1)) x295000 x295001) else (impl_isMixed.l0 k (((rd_T65 x9 x11).f8) == 3) (((rd_T65 x9 x11).f8) != 3) x9 x10 (wrap64 (x11 + 1)) x295000 x295001))) else (impl_isMixed.l0 k x5 x6 x9 x10 (wrap64 (x11 + 1)) x295000 x295001)) else (none)) else (none)) else (none)) else (if x5 = true then (some x6) else (some false))
def impl_isMixed.f (k : Nat) (l0 : List (S65)) (a1_0 : Int) (l1_1 : List Int) : Option (Bool) := impl_isMixed.l0 k false false l0 (l0.length : Int) 0 a1_0 l1_1
theorem impl_isMixed.mono_l : ∀ k, (∀ y0 y1 y2 y3 y4 y5 y6, LeO (impl_isMixed.l0 k y0 y1 y2 y3 y4 y5 y6) (impl_isMixed.l0 (k + 1) y0 y1 y2 y3 y4 y5 y6))
 | 0 => fun _ _ _ _ _ _ _ r h => by simp [impl_isMixed.l0] at h
 | k + 1 => by
  have ih0 := impl_isMixed.mono_l k
  ·intro y0 y1 y2 y3 y4 y5 y6
   unfold impl_isMixed.l0
   repeat' first
   | (with_reducible exact ih0 _ _ _ _ _ _ _)
   | (with_reducible exact LeO.refl _)
   | (with_reducible exact LeO.none _)
   | (with_reducible refine LeO.ite ?_ ?_)
   | (with_reducible refine LeO.bind ?_ (fun _ => ?_))
   | exact ih0 _ _ _ _ _ _ _
   | exact LeO.none _
   | refine LeO.ite ?_ ?_
   | refine LeO.bind ?_ (fun _ => ?_)
theorem impl_isMixed.mono : ∀ a0 a1 a2 k, LeO (impl_isMixed.f k a0 a1 a2) (impl_isMixed.f (k + 1) a0 a1 a2) := by
 intro a0 a1 a2 k
 have ih0 := impl_isMixed.mono_l k
 unfold impl_isMixed.f
 repeat' first
   | (with_reducible exact ih0 _ _ _ _ _ _ _)
   | (with_reducible exact LeO.refl _)
   | (with_reducible exact LeO.none _)
   | (with_reducible refine LeO.ite ?_ ?_)
   | (with_reducible refine LeO.bind ?_ (fun _ => ?_))
   | exact ih0 _ _ _ _ _ _ _
   | exact LeO.none _
   | refine LeO.ite ?_ ?_
   | refine LeO.bind ?_ (fun _ => ?_)
set_option maxHeartbeats 8000000 in
set_option maxRecDepth 100000 in
theorem impl_isMixed.calls (k : Nat) (A0 : Option Addr) (c0 : Nat) (l0 : List (S65)) (a1_0 : Int) (A1_1 : Option Addr) (c1_1 : Nat) (l1_1 : List Int) (r : Bool) (w : World) (hr0 : Kd.C k65 w A0 l0.length l0) (hc0 : l0.length ≤ c0) (hr1_1 : Kd.C (Kd.int .i64) w A1_1 l1_1.length l1_1) (hc1_1 : l1_1.length ≤ c1_1) (h : impl_isMixed.f k l0 a1_0 l1_1 = some r) :
  Calls Try.prog 68 #[.slice A0 l0.length c0, .agg #[.int .i64 a1_0, .slice A1_1 l1_1.length c1_1]] w fun e w' => e = .returned (.bool r) ∧ Below w.heap.size w w' := by
 have hu28 := Try.underlying28
 have hu65 := Try.underlying65
 have HR0 := jA hr0
 have HC0 := jA hc0
 clear hr0 hc0
 have HR1_1 := jA hr1_1
 have HC1_1 := jA hc1_1
 clear hr1_1 hc1_1
 have HB := jA (Below.refl w.heap.size w)
 have H : (impl_isMixed.l0 k false false l0 (l0.length : Int) 0 a1_0 l1_1) = some r := h
 clear h
 have H' := jA H
 clear H
 go_enter Try.func68, Try.ntmps68
 go_wp2_with (first | ((with_reducible refine jJ (N := 3) rfl ?_); refine zE 3 #[.int .i64 a1_0, .slice A1_1 l1_1.length c1_1] 28 ?_; intro gb294 hg w3 hbox hb; have BK294 := jA (hbox); have GW294 := zg0 hg HB; have GE294 := zg0 hg HB; replace HB := zS0 HB hb; clear hb hbox hg))
 go_loopg [5, 6, 11] k (fun kq v5 v6 v11 w' => ∃ (x5_1 : Bool) (x6_1 : Bool) (x11_1 : Int), v5 = .bool x5_1 ∧ v6 = .bool x6_1 ∧ v11 = .int .i64 x11_1 ∧ Aside0 (impl_isMixed.l0 kq x5_1 x6_1 l0 (l0.length : Int) x11_1 a1_0 l1_1 = some r) ∧ Aside0 (kq ≤ k) ∧ Aside0 (w'.heap[gb294]? = some (.cells #[.int .i64 a1_0, (.slice A1_1 l1_1.length c1_1)] 28 (0, 0))) ∧ Aside0 (Below w.heap.size w w'))
 case atStart => exact ⟨(false), (false), (0), zz, zz, zz, H', ⟨Nat.le_refl _⟩, ⟨zk BK294⟩, ⟨zb1 HB GE294⟩⟩
 case round =>
  clear H'
  try clear c1
  try clear p2
  obtain ⟨x5_1, x6_1, x11_1, rfl, rfl, rfl, HA, HK1, BK294, HB⟩ := hrel
  cases gk with
  | zero => exact absurd HA.out (by simp [impl_isMixed.l0])
  | succ k1 =>
   have H := HA.out
   clear HA
   simp only [impl_isMixed.l0] at H
   by_cases c4 : x11_1 < (l0.length : Int)
   ·rw [if_pos c4] at H
    have c4b0 : decide (x11_1 < (l0.length : Int)) = true := jI c4
    clear c4
    by_cases c5 : 0 ≤ x11_1
    ·rw [if_pos c5] at H
     have c5b0 : decide (0 ≤ x11_1) = true := jI c5
     clear c5
     by_cases c6 : x11_1 < (l0.length : Int)
     ·rw [if_pos c6] at H
      have c6b0 : decide (x11_1 < (l0.length : Int)) = true := jI c6
      clear c6
      by_cases c7 : x11_1 < (l1_1.length : Int)
      ·rw [if_pos c7] at H
       have c7b0 : decide (x11_1 < (l1_1.length : Int)) = true := jI c7
       clear c7
       by_cases c8 : (rd l1_1 x11_1) > 0
       ·rw [if_pos c8] at H
        have c8b0 : decide (0 < (rd l1_1 x11_1)) = true := jI c8
        clear c8
        by_cases c9 : x5_1 = true
        ·subst c9
         rw [if_pos rfl] at H
         by_cases c10 : x6_1 = true
         ·subst c10
          rw [if_pos rfl] at H
          have H' := jA H
          clear H
          have p295 : 0 ≤ (x11_1 : Int) := jB za
          have q295 : x11_1 < (l0.length : Int) := jB za
          obtain ⟨ad295, e295, hx295_0, hx295_1, hx295_2, hx295_3, hx295_4, hx295_5, hx295_6, hx295_7, hx295_8⟩ := at_T65 HR0.out x11_1 p295 q295
          cases e295
          replace hx295_0 := zx HB hx295_0
          replace hx295_1 := zx HB hx295_1
          replace hx295_2 := zx HB hx295_2
          replace hx295_3 := zx HB hx295_3
          replace hx295_4 := zx HB hx295_4
          replace hx295_5 := zx HB hx295_5
          replace hx295_6 := zx HB hx295_6
          replace hx295_7 := zx HB hx295_7
          replace hx295_8 := zx HB hx295_8
          replace p295 := eq_true p295
          replace q295 := eq_true q295
          go_wp2_with (first | ((with_reducible refine jJ (N := 8) rfl ?_); refine zE 8 #[.string (⟨#[]⟩ : ByteArray), .int .i64 0, .int .i64 0, .int .i64 0, .int .i64 0, .int .i64 0, .int .i64 0, .int .i64 0, .int .i64 0] 65 ?_; intro gb296 hg w11 hbox hb; have BK296 := jA (hbox); have GW296 := zg1 hg HB GE294; have GE296 := zg1 hg HB GE294; replace HB := zS1 HB GE294 hb; have NB294_296 := zn hg BK294; replace BK294 := zB BK294 hb; have NB296_294 := jA NB294_296.out.symm; clear hb hbox hg; have hnb12 := NB296_294.out; have hnc12 := NB294_296.out; have hcz13 := zc9 BK296; have hcz14 := zc2 BK294; have p297 : 0 ≤ (x11_1 : Int) := jB za; have q297 : x11_1 < (l1_1.length : Int) := jB za; obtain ⟨ad297, e297, hx297_0⟩ := Kd.at_int HR1_1.out x11_1 p297 q297; cases e297; have hn297_0 : ad297.block ≠ gb296 := zd hx297_0 GW296; have hn297_1 : ad297.block ≠ gb296 := zd hx297_0 GW296; have hn297_2 : ad297.block ≠ gb296 := zd hx297_0 GW296; have hn297_3 : ad297.block ≠ gb296 := zd hx297_0 GW296; have hn297_4 : ad297.block ≠ gb296 := zd hx297_0 GW296; have hn297_5 : ad297.block ≠ gb296 := zd hx297_0 GW296; have hn297_6 : ad297.block ≠ gb296 := zd hx297_0 GW296; have hn297_7 : ad297.block ≠ gb296 := zd hx297_0 GW296; have hn297_8 : ad297.block ≠ gb296 := zd hx297_0 GW296; replace hx297_0 := zx HB hx297_0; replace hx297_0 := (jL (p := ⟨gb296, 0, none⟩) (zf hn297_0) (.string ((rd_T65 l0 x11_1).f0))).trans hx297_0; replace hx297_0 := (jL (p := ⟨gb296, 1, none⟩) (zf hn297_1) (.int .i64 ((rd_T65 l0 x11_1).f1))).trans hx297_0; replace hx297_0 := (jL (p := ⟨gb296, 2, none⟩) (zf hn297_2) (.int .i64 ((rd_T65 l0 x11_1).f2))).trans hx297_0; replace hx297_0 := (jL (p := ⟨gb296, 3, none⟩) (zf hn297_3) (.int .i64 ((rd_T65 l0 x11_1).f3))).trans hx297_0; replace hx297_0 := (jL (p := ⟨gb296, 4, none⟩) (zf hn297_4) (.int .i64 ((rd_T65 l0 x11_1).f4))).trans hx297_0; replace hx297_0 := (jL (p := ⟨gb296, 5, none⟩) (zf hn297_5) (.int .i64 ((rd_T65 l0 x11_1).f5))).trans hx297_0; replace hx297_0 := (jL (p := ⟨gb296, 6, none⟩) (zf hn297_6) (.int .i64 ((rd_T65 l0 x11_1).f6))).trans hx297_0; replace hx297_0 := (jL (p := ⟨gb296, 7, none⟩) (zf hn297_7) (.int .i64 ((rd_T65 l0 x11_1).f7))).trans hx297_0; replace hx297_0 := (jL (p := ⟨gb296, 8, none⟩) (zf hn297_8) (.int .i64 ((rd_T65 l0 x11_1).f8))).trans hx297_0; clear hn297_0; clear hn297_1; clear hn297_2; clear hn297_3; clear hn297_4; clear hn297_5; clear hn297_6; clear hn297_7; clear hn297_8; replace p297 := eq_true p297; replace q297 := eq_true q297))
          go_roundg k1
          case measure => have := HK1.out; omega
          case rel => exact ⟨(true), (true), (wrap64 (x11_1 + 1)), zz, zz, zz, H', ⟨by have := HK1.out; omega⟩, ⟨zQ1 BK294 NB294_296⟩, ⟨zb2 HB GE294 GE296⟩⟩
         ·replace c10 := Bool.eq_false_iff.mpr c10
          subst c10
          rw [if_neg zfalse] at H
          have H' := jA H
          clear H
          have p295 : 0 ≤ (x11_1 : Int) := jB za
          have q295 : x11_1 < (l0.length : Int) := jB za
          obtain ⟨ad295, e295, hx295_0, hx295_1, hx295_2, hx295_3, hx295_4, hx295_5, hx295_6, hx295_7, hx295_8⟩ := at_T65 HR0.out x11_1 p295 q295
          cases e295
          replace hx295_0 := zx HB hx295_0
          replace hx295_1 := zx HB hx295_1
          replace hx295_2 := zx HB hx295_2
          replace hx295_3 := zx HB hx295_3
          replace hx295_4 := zx HB hx295_4
          replace hx295_5 := zx HB hx295_5
          replace hx295_6 := zx HB hx295_6
          replace hx295_7 := zx HB hx295_7
          replace hx295_8 := zx HB hx295_8
          replace p295 := eq_true p295
          replace q295 := eq_true q295
          go_wp2_with (first | ((with_reducible refine jJ (N := 8) rfl ?_); refine zE 8 #[.string (⟨#[]⟩ : ByteArray), .int .i64 0, .int .i64 0, .int .i64 0, .int .i64 0, .int .i64 0, .int .i64 0, .int .i64 0, .int .i64 0] 65 ?_; intro gb296 hg w15 hbox hb; have BK296 := jA (hbox); have GW296 := zg1 hg HB GE294; have GE296 := zg1 hg HB GE294; replace HB := zS1 HB GE294 hb; have NB294_296 := zn hg BK294; replace BK294 := zB BK294 hb; have NB296_294 := jA NB294_296.out.symm; clear hb hbox hg; have hnb16 := NB296_294.out; have hnc16 := NB294_296.out; have hcz17 := zc9 BK296; have hcz18 := zc2 BK294; have p297 : 0 ≤ (x11_1 : Int) := jB za; have q297 : x11_1 < (l1_1.length : Int) := jB za; obtain ⟨ad297, e297, hx297_0⟩ := Kd.at_int HR1_1.out x11_1 p297 q297; cases e297; have hn297_0 : ad297.block ≠ gb296 := zd hx297_0 GW296; have hn297_1 : ad297.block ≠ gb296 := zd hx297_0 GW296; have hn297_2 : ad297.block ≠ gb296 := zd hx297_0 GW296; have hn297_3 : ad297.block ≠ gb296 := zd hx297_0 GW296; have hn297_4 : ad297.block ≠ gb296 := zd hx297_0 GW296; have hn297_5 : ad297.block ≠ gb296 := zd hx297_0 GW296; have hn297_6 : ad297.block ≠ gb296 := zd hx297_0 GW296; have hn297_7 : ad297.block ≠ gb296 := zd hx297_0 GW296; have hn297_8 : ad297.block ≠ gb296 := zd hx297_0 GW296; replace hx297_0 := zx HB hx297_0; replace hx297_0 := (jL (p := ⟨gb296, 0, none⟩) (zf hn297_0) (.string ((rd_T65 l0 x11_1).f0))).trans hx297_0; replace hx297_0 := (jL (p := ⟨gb296, 1, none⟩) (zf hn297_1) (.int .i64 ((rd_T65 l0 x11_1).f1))).trans hx297_0; replace hx297_0 := (jL (p := ⟨gb296, 2, none⟩) (zf hn297_2) (.int .i64 ((rd_T65 l0 x11_1).f2))).trans hx297_0; replace hx297_0 := (jL (p := ⟨gb296, 3, none⟩) (zf hn297_3) (.int .i64 ((rd_T65 l0 x11_1).f3))).trans hx297_0; replace hx297_0 := (jL (p := ⟨gb296, 4, none⟩) (zf hn297_4) (.int .i64 ((rd_T65 l0 x11_1).f4))).trans hx297_0; replace hx297_0 := (jL (p := ⟨gb296, 5, none⟩) (zf hn297_5) (.int .i64 ((rd_T65 l0 x11_1).f5))).trans hx297_0; replace hx297_0 := (jL (p := ⟨gb296, 6, none⟩) (zf hn297_6) (.int .i64 ((rd_T65 l0 x11_1).f6))).trans hx297_0; replace hx297_0 := (jL (p := ⟨gb296, 7, none⟩) (zf hn297_7) (.int .i64 ((rd_T65 l0 x11_1).f7))).trans hx297_0; replace hx297_0 := (jL (p := ⟨gb296, 8, none⟩) (zf hn297_8) (.int .i64 ((rd_T65 l0 x11_1).f8))).trans hx297_0; clear hn297_0; clear hn297_1; clear hn297_2; clear hn297_3; clear hn297_4; clear hn297_5; clear hn297_6; clear hn297_7; clear hn297_8; replace p297 := eq_true p297; replace q297 := eq_true q297))
          go_roundg k1
          case measure => have := HK1.out; omega
          case rel => exact ⟨(true), ((((rd_T65 l0 x11_1).f8) != 3)), (wrap64 (x11_1 + 1)), zz, zz, zz, H', ⟨by have := HK1.out; omega⟩, ⟨zQ1 BK294 NB294_296⟩, ⟨zb2 HB GE294 GE296⟩⟩
        ·replace c9 := Bool.eq_false_iff.mpr c9
         subst c9
         rw [if_neg zfalse] at H
         by_cases c19 : x6_1 = true
         ·subst c19
          rw [if_pos rfl] at H
          have H' := jA H
          clear H
          have p295 : 0 ≤ (x11_1 : Int) := jB za
          have q295 : x11_1 < (l0.length : Int) := jB za
          obtain ⟨ad295, e295, hx295_0, hx295_1, hx295_2, hx295_3, hx295_4, hx295_5, hx295_6, hx295_7, hx295_8⟩ := at_T65 HR0.out x11_1 p295 q295
          cases e295
          replace hx295_0 := zx HB hx295_0
          replace hx295_1 := zx HB hx295_1
          replace hx295_2 := zx HB hx295_2
          replace hx295_3 := zx HB hx295_3
          replace hx295_4 := zx HB hx295_4
          replace hx295_5 := zx HB hx295_5
          replace hx295_6 := zx HB hx295_6
          replace hx295_7 := zx HB hx295_7
          replace hx295_8 := zx HB hx295_8
          replace p295 := eq_true p295
          replace q295 := eq_true q295
          go_wp2_with (first | ((with_reducible refine jJ (N := 8) rfl ?_); refine zE 8 #[.string (⟨#[]⟩ : ByteArray), .int .i64 0, .int .i64 0, .int .i64 0, .int .i64 0, .int .i64 0, .int .i64 0, .int .i64 0, .int .i64 0] 65 ?_; intro gb296 hg w20 hbox hb; have BK296 := jA (hbox); have GW296 := zg1 hg HB GE294; have GE296 := zg1 hg HB GE294; replace HB := zS1 HB GE294 hb; have NB294_296 := zn hg BK294; replace BK294 := zB BK294 hb; have NB296_294 := jA NB294_296.out.symm; clear hb hbox hg; have hnb21 := NB296_294.out; have hnc21 := NB294_296.out; have hcz22 := zc9 BK296; have hcz23 := zc2 BK294; have p297 : 0 ≤ (x11_1 : Int) := jB za; have q297 : x11_1 < (l1_1.length : Int) := jB za; obtain ⟨ad297, e297, hx297_0⟩ := Kd.at_int HR1_1.out x11_1 p297 q297; cases e297; have hn297_0 : ad297.block ≠ gb296 := zd hx297_0 GW296; have hn297_1 : ad297.block ≠ gb296 := zd hx297_0 GW296; have hn297_2 : ad297.block ≠ gb296 := zd hx297_0 GW296; have hn297_3 : ad297.block ≠ gb296 := zd hx297_0 GW296; have hn297_4 : ad297.block ≠ gb296 := zd hx297_0 GW296; have hn297_5 : ad297.block ≠ gb296 := zd hx297_0 GW296; have hn297_6 : ad297.block ≠ gb296 := zd hx297_0 GW296; have hn297_7 : ad297.block ≠ gb296 := zd hx297_0 GW296; have hn297_8 : ad297.block ≠ gb296 := zd hx297_0 GW296; replace hx297_0 := zx HB hx297_0; replace hx297_0 := (jL (p := ⟨gb296, 0, none⟩) (zf hn297_0) (.string ((rd_T65 l0 x11_1).f0))).trans hx297_0; replace hx297_0 := (jL (p := ⟨gb296, 1, none⟩) (zf hn297_1) (.int .i64 ((rd_T65 l0 x11_1).f1))).trans hx297_0; replace hx297_0 := (jL (p := ⟨gb296, 2, none⟩) (zf hn297_2) (.int .i64 ((rd_T65 l0 x11_1).f2))).trans hx297_0; replace hx297_0 := (jL (p := ⟨gb296, 3, none⟩) (zf hn297_3) (.int .i64 ((rd_T65 l0 x11_1).f3))).trans hx297_0; replace hx297_0 := (jL (p := ⟨gb296, 4, none⟩) (zf hn297_4) (.int .i64 ((rd_T65 l0 x11_1).f4))).trans hx297_0; replace hx297_0 := (jL (p := ⟨gb296, 5, none⟩) (zf hn297_5) (.int .i64 ((rd_T65 l0 x11_1).f5))).trans hx297_0; replace hx297_0 := (jL (p := ⟨gb296, 6, none⟩) (zf hn297_6) (.int .i64 ((rd_T65 l0 x11_1).f6))).trans hx297_0; replace hx297_0 := (jL (p := ⟨gb296, 7, none⟩) (zf hn297_7) (.int .i64 ((rd_T65 l0 x11_1).f7))).trans hx297_0; replace hx297_0 := (jL (p := ⟨gb296, 8, none⟩) (zf hn297_8) (.int .i64 ((rd_T65 l0 x11_1).f8))).trans hx297_0; clear hn297_0; clear hn297_1; clear hn297_2; clear hn297_3; clear hn297_4; clear hn297_5; clear hn297_6; clear hn297_7; clear hn297_8; replace p297 := eq_true p297; replace q297 := eq_true q297))
          go_roundg k1
          case measure => have := HK1.out; omega
          case rel => exact ⟨((((rd_T65 l0 x11_1).f8) == 3)), (true), (wrap64 (x11_1 + 1)), zz, zz, zz, H', ⟨by have := HK1.out; omega⟩, ⟨zQ1 BK294 NB294_296⟩, ⟨zb2 HB GE294 GE296⟩⟩
         ·replace c19 := Bool.eq_false_iff.mpr c19
          subst c19
          rw [if_neg zfalse] at H
          have H' := jA H
          clear H
          have p295 : 0 ≤ (x11_1 : Int) := jB za
          have q295 : x11_1 < (l0.length : Int) := jB za
          obtain ⟨ad295, e295, hx295_0, hx295_1, hx295_2, hx295_3, hx295_4, hx295_5, hx295_6, hx295_7, hx295_8⟩ := at_T65 HR0.out x11_1 p295 q295
          cases e295
          replace hx295_0 := zx HB hx295_0
          replace hx295_1 := zx HB hx295_1
          replace hx295_2 := zx HB hx295_2
          replace hx295_3 := zx HB hx295_3
          replace hx295_4 := zx HB hx295_4
          replace hx295_5 := zx HB hx295_5
          replace hx295_6 := zx HB hx295_6
          replace hx295_7 := zx HB hx295_7
          replace hx295_8 := zx HB hx295_8
          replace p295 := eq_true p295
          replace q295 := eq_true q295
          go_wp2_with (first | ((with_reducible refine jJ (N := 8) rfl ?_); refine zE 8 #[.string (⟨#[]⟩ : ByteArray), .int .i64 0, .int .i64 0, .int .i64 0, .int .i64 0, .int .i64 0, .int .i64 0, .int .i64 0, .int .i64 0] 65 ?_; intro gb296 hg w24 hbox hb; have BK296 := jA (hbox); have GW296 := zg1 hg HB GE294; have GE296 := zg1 hg HB GE294; replace HB := zS1 HB GE294 hb; have NB294_296 := zn hg BK294; replace BK294 := zB BK294 hb; have NB296_294 := jA NB294_296.out.symm; clear hb hbox hg; have hnb25 := NB296_294.out; have hnc25 := NB294_296.out; have hcz26 := zc9 BK296; have hcz27 := zc2 BK294; have p297 : 0 ≤ (x11_1 : Int) := jB za; have q297 : x11_1 < (l1_1.length : Int) := jB za; obtain ⟨ad297, e297, hx297_0⟩ := Kd.at_int HR1_1.out x11_1 p297 q297; cases e297; have hn297_0 : ad297.block ≠ gb296 := zd hx297_0 GW296; have hn297_1 : ad297.block ≠ gb296 := zd hx297_0 GW296; have hn297_2 : ad297.block ≠ gb296 := zd hx297_0 GW296; have hn297_3 : ad297.block ≠ gb296 := zd hx297_0 GW296; have hn297_4 : ad297.block ≠ gb296 := zd hx297_0 GW296; have hn297_5 : ad297.block ≠ gb296 := zd hx297_0 GW296; have hn297_6 : ad297.block ≠ gb296 := zd hx297_0 GW296; have hn297_7 : ad297.block ≠ gb296 := zd hx297_0 GW296; have hn297_8 : ad297.block ≠ gb296 := zd hx297_0 GW296; replace hx297_0 := zx HB hx297_0; replace hx297_0 := (jL (p := ⟨gb296, 0, none⟩) (zf hn297_0) (.string ((rd_T65 l0 x11_1).f0))).trans hx297_0; replace hx297_0 := (jL (p := ⟨gb296, 1, none⟩) (zf hn297_1) (.int .i64 ((rd_T65 l0 x11_1).f1))).trans hx297_0; replace hx297_0 := (jL (p := ⟨gb296, 2, none⟩) (zf hn297_2) (.int .i64 ((rd_T65 l0 x11_1).f2))).trans hx297_0; replace hx297_0 := (jL (p := ⟨gb296, 3, none⟩) (zf hn297_3) (.int .i64 ((rd_T65 l0 x11_1).f3))).trans hx297_0; replace hx297_0 := (jL (p := ⟨gb296, 4, none⟩) (zf hn297_4) (.int .i64 ((rd_T65 l0 x11_1).f4))).trans hx297_0; replace hx297_0 := (jL (p := ⟨gb296, 5, none⟩) (zf hn297_5) (.int .i64 ((rd_T65 l0 x11_1).f5))).trans hx297_0; replace hx297_0 := (jL (p := ⟨gb296, 6, none⟩) (zf hn297_6) (.int .i64 ((rd_T65 l0 x11_1).f6))).trans hx297_0; replace hx297_0 := (jL (p := ⟨gb296, 7, none⟩) (zf hn297_7) (.int .i64 ((rd_T65 l0 x11_1).f7))).trans hx297_0; replace hx297_0 := (jL (p := ⟨gb296, 8, none⟩) (zf hn297_8) (.int .i64 ((rd_T65 l0 x11_1).f8))).trans hx297_0; clear hn297_0; clear hn297_1; clear hn297_2; clear hn297_3; clear hn297_4; clear hn297_5; clear hn297_6; clear hn297_7; clear hn297_8; replace p297 := eq_true p297; replace q297 := eq_true q297))
          go_roundg k1
          case measure => have := HK1.out; omega
          case rel => exact ⟨((((rd_T65 l0 x11_1).f8) == 3)), ((((rd_T65 l0 x11_1).f8) != 3)), (wrap64 (x11_1 + 1)), zz, zz, zz, H', ⟨by have := HK1.out; omega⟩, ⟨zQ1 BK294 NB294_296⟩, ⟨zb2 HB GE294 GE296⟩⟩
       ·rw [if_neg c8] at H
        have c8b0 : decide (0 < (rd l1_1 x11_1)) = false := jM c8
        clear c8
        have H' := jA H
        clear H
        have p295 : 0 ≤ (x11_1 : Int) := jB za
        have q295 : x11_1 < (l0.length : Int) := jB za
        obtain ⟨ad295, e295, hx295_0, hx295_1, hx295_2, hx295_3, hx295_4, hx295_5, hx295_6, hx295_7, hx295_8⟩ := at_T65 HR0.out x11_1 p295 q295
        cases e295
        replace hx295_0 := zx HB hx295_0
        replace hx295_1 := zx HB hx295_1
        replace hx295_2 := zx HB hx295_2
        replace hx295_3 := zx HB hx295_3
        replace hx295_4 := zx HB hx295_4
        replace hx295_5 := zx HB hx295_5
        replace hx295_6 := zx HB hx295_6
        replace hx295_7 := zx HB hx295_7
        replace hx295_8 := zx HB hx295_8
        replace p295 := eq_true p295
        replace q295 := eq_true q295
        go_wp2_with (first | ((with_reducible refine jJ (N := 8) rfl ?_); refine zE 8 #[.string (⟨#[]⟩ : ByteArray), .int .i64 0, .int .i64 0, .int .i64 0, .int .i64 0, .int .i64 0, .int .i64 0, .int .i64 0, .int .i64 0] 65 ?_; intro gb296 hg w28 hbox hb; have BK296 := jA (hbox); have GW296 := zg1 hg HB GE294; have GE296 := zg1 hg HB GE294; replace HB := zS1 HB GE294 hb; have NB294_296 := zn hg BK294; replace BK294 := zB BK294 hb; have NB296_294 := jA NB294_296.out.symm; clear hb hbox hg; have hnb29 := NB296_294.out; have hnc29 := NB294_296.out; have hcz30 := zc9 BK296; have hcz31 := zc2 BK294; have p297 : 0 ≤ (x11_1 : Int) := jB za; have q297 : x11_1 < (l1_1.length : Int) := jB za; obtain ⟨ad297, e297, hx297_0⟩ := Kd.at_int HR1_1.out x11_1 p297 q297; cases e297; have hn297_0 : ad297.block ≠ gb296 := zd hx297_0 GW296; have hn297_1 : ad297.block ≠ gb296 := zd hx297_0 GW296; have hn297_2 : ad297.block ≠ gb296 := zd hx297_0 GW296; have hn297_3 : ad297.block ≠ gb296 := zd hx297_0 GW296; have hn297_4 : ad297.block ≠ gb296 := zd hx297_0 GW296; have hn297_5 : ad297.block ≠ gb296 := zd hx297_0 GW296; have hn297_6 : ad297.block ≠ gb296 := zd hx297_0 GW296; have hn297_7 : ad297.block ≠ gb296 := zd hx297_0 GW296; have hn297_8 : ad297.block ≠ gb296 := zd hx297_0 GW296; replace hx297_0 := zx HB hx297_0; replace hx297_0 := (jL (p := ⟨gb296, 0, none⟩) (zf hn297_0) (.string ((rd_T65 l0 x11_1).f0))).trans hx297_0; replace hx297_0 := (jL (p := ⟨gb296, 1, none⟩) (zf hn297_1) (.int .i64 ((rd_T65 l0 x11_1).f1))).trans hx297_0; replace hx297_0 := (jL (p := ⟨gb296, 2, none⟩) (zf hn297_2) (.int .i64 ((rd_T65 l0 x11_1).f2))).trans hx297_0; replace hx297_0 := (jL (p := ⟨gb296, 3, none⟩) (zf hn297_3) (.int .i64 ((rd_T65 l0 x11_1).f3))).trans hx297_0; replace hx297_0 := (jL (p := ⟨gb296, 4, none⟩) (zf hn297_4) (.int .i64 ((rd_T65 l0 x11_1).f4))).trans hx297_0; replace hx297_0 := (jL (p := ⟨gb296, 5, none⟩) (zf hn297_5) (.int .i64 ((rd_T65 l0 x11_1).f5))).trans hx297_0; replace hx297_0 := (jL (p := ⟨gb296, 6, none⟩) (zf hn297_6) (.int .i64 ((rd_T65 l0 x11_1).f6))).trans hx297_0; replace hx297_0 := (jL (p := ⟨gb296, 7, none⟩) (zf hn297_7) (.int .i64 ((rd_T65 l0 x11_1).f7))).trans hx297_0; replace hx297_0 := (jL (p := ⟨gb296, 8, none⟩) (zf hn297_8) (.int .i64 ((rd_T65 l0 x11_1).f8))).trans hx297_0; clear hn297_0; clear hn297_1; clear hn297_2; clear hn297_3; clear hn297_4; clear hn297_5; clear hn297_6; clear hn297_7; clear hn297_8; replace p297 := eq_true p297; replace q297 := eq_true q297))
        go_roundg k1
        case measure => have := HK1.out; omega
        case rel => exact ⟨(x5_1), (x6_1), (wrap64 (x11_1 + 1)), zz, zz, zz, H', ⟨by have := HK1.out; omega⟩, ⟨zQ1 BK294 NB294_296⟩, ⟨zb2 HB GE294 GE296⟩⟩
      ·rw [if_neg c7] at H
       exact absurd H (by simp)
     ·rw [if_neg c6] at H
      exact absurd H (by simp)
    ·rw [if_neg c5] at H
     exact absurd H (by simp)
   ·rw [if_neg c4] at H
    have c4b0 : decide (x11_1 < (l0.length : Int)) = false := jM c4
    clear c4
    by_cases c32 : x5_1 = true
    ·subst c32
     rw [if_pos rfl] at H
     obtain rfl := jH H
     go_wp2
     go_ret
     exact ⟨ze, zb1 HB GE294⟩
    ·replace c32 := Bool.eq_false_iff.mpr c32
     subst c32
     rw [if_neg zfalse] at H
     obtain rfl := jH H
     go_wp2
     go_ret
     exact ⟨ze, zb1 HB GE294⟩

end Go.Proofs.Ytdgglhfnlljmeaa.PFnExactMovePieces
