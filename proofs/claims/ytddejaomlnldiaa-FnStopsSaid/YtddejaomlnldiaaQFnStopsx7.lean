/- Functions and contracts that FnStops reaches (8 of 14). -/
import Derived.Test.YtddejaomlnldiaaQFnStopsx6
namespace Go.Proofs.Ytddejaomlnldiaa.PFnStops
open Go.RowKit Go.Proofs.YtddejaomlnldiaaW.PrintWords Go.Proofs.YtddejaomlnldiaaW.PrintLast Go.Proofs.YtddejaomlnldiaaW.PrintMore
attribute [local go_sem] max2_int min2_int max_two min_two max_three min_three max_four min_four   -- for this text's walks alone
set_option linter.unusedVariables false
set_option linter.unusedSimpArgs false

/-! ### impl_StoppedCues: function 45 -/
def impl_StoppedCues.l0 : Nat → List (S63) → Int → Int → List Int → List Int → List (S59) → Int → Int → Option (List Int × Int)
 | 0, _, _, _, _, _, _, _, _ => none
 | k + 1, x0, x3, x4, x5, x15, x28, x29, x30 => if x30 < x29 then (if 0 ≤ x30 then (if x30 < (x28.length : Int) then ((impl_isStopped.f k x0 ((rd_T59 x28 x30).f0) ((rd_T59 x28 x30).f1) ((rd_T59 x28 x30).f2) x3 x4 x5).bind fun t227 => (if t227 = true then (if x15.length < 17592186044416 then (impl_StoppedCues.l0 k x0 x3 x4 x5 (x15 ++ [(rd_T59 x28 x30).f0]) x28 x29 (wrap64 (x30 + 1))) else (none)) else (impl_StoppedCues.l0 k x0 x3 x4 x5 x15 x28 x29 (wrap64 (x30 + 1))))) else (none)) else (none)) else (some (x15, 0))
def impl_StoppedCues.f (k : Nat) (l0 : List (S63)) (a1 : Int) (l2 : List (S59)) (a3 : Int) (a4 : Int) (l5 : List Int) : Option (List Int × Int) := (impl_stopsAsked.f k l0 a1 l2 a3 a4 l5).bind fun t224 => (if t224 = 0 then (impl_StoppedCues.l0 k l0 a3 a4 l5 ([] : List Int) l2 (l2.length : Int) 0) else (some (([] : List Int), t224)))
theorem impl_StoppedCues.mono_l : ∀ k, (∀ y0 y1 y2 y3 y4 y5 y6 y7, LeO (impl_StoppedCues.l0 k y0 y1 y2 y3 y4 y5 y6 y7) (impl_StoppedCues.l0 (k + 1) y0 y1 y2 y3 y4 y5 y6 y7))
 | 0 => fun _ _ _ _ _ _ _ _ r h => by simp [impl_StoppedCues.l0] at h
 | k + 1 => by
  have ih0 := impl_StoppedCues.mono_l k
  ·intro y0 y1 y2 y3 y4 y5 y6 y7
   unfold impl_StoppedCues.l0
   repeat' first
   | (with_reducible exact ih0 _ _ _ _ _ _ _ _)
   | (with_reducible exact impl_isStopped.mono _ _ _ _ _ _ _ _)
   | (with_reducible exact impl_stopsAsked.mono _ _ _ _ _ _ _)
   | (with_reducible exact LeO.refl _)
   | (with_reducible exact LeO.none _)
   | (with_reducible refine LeO.ite ?_ ?_)
   | (with_reducible refine LeO.bind ?_ (fun _ => ?_))
   | exact ih0 _ _ _ _ _ _ _ _
   | exact impl_isStopped.mono _ _ _ _ _ _ _ _
   | exact impl_stopsAsked.mono _ _ _ _ _ _ _
   | exact LeO.none _
   | refine LeO.ite ?_ ?_
   | refine LeO.bind ?_ (fun _ => ?_)
theorem impl_StoppedCues.mono : ∀ a0 a1 a2 a3 a4 a5 k, LeO (impl_StoppedCues.f k a0 a1 a2 a3 a4 a5) (impl_StoppedCues.f (k + 1) a0 a1 a2 a3 a4 a5) := by
 intro a0 a1 a2 a3 a4 a5 k
 have ih0 := impl_StoppedCues.mono_l k
 unfold impl_StoppedCues.f
 repeat' first
   | (with_reducible exact ih0 _ _ _ _ _ _ _ _)
   | (with_reducible exact impl_isStopped.mono _ _ _ _ _ _ _ _)
   | (with_reducible exact impl_stopsAsked.mono _ _ _ _ _ _ _)
   | (with_reducible exact LeO.refl _)
   | (with_reducible exact LeO.none _)
   | (with_reducible refine LeO.ite ?_ ?_)
   | (with_reducible refine LeO.bind ?_ (fun _ => ?_))
   | exact ih0 _ _ _ _ _ _ _ _
   | exact impl_isStopped.mono _ _ _ _ _ _ _ _
   | exact impl_stopsAsked.mono _ _ _ _ _ _ _
   | exact LeO.none _
   | refine LeO.ite ?_ ?_
   | refine LeO.bind ?_ (fun _ => ?_)
set_option maxHeartbeats 8000000 in
set_option maxRecDepth 100000 in
theorem impl_StoppedCues.calls (k : Nat) (A0 : Option Addr) (c0 : Nat) (l0 : List (S63)) (a1 : Int) (A2 : Option Addr) (c2 : Nat) (l2 : List (S59)) (a3 : Int) (a4 : Int) (A5 : Option Addr) (c5 : Nat) (l5 : List Int) (r1 : List Int) (r2 : Int) (w : World) (hr0 : Kd.C k63 w A0 l0.length l0) (hc0 : l0.length ≤ c0) (hr2 : Kd.C k59 w A2 l2.length l2) (hc2 : l2.length ≤ c2) (hr5 : Kd.C (Kd.int .i64) w A5 l5.length l5) (hc5 : l5.length ≤ c5) (h : impl_StoppedCues.f k l0 a1 l2 a3 a4 l5 = some (r1, r2)) :
  Calls Try.prog 45 #[.slice A0 l0.length c0, .int .i64 a1, .slice A2 l2.length c2, .int .i64 a3, .int .i64 a4, .slice A5 l5.length c5] w fun e w' => ∃ v0_ : Value, e = .returned (.tuple #[v0_, .int .i64 r2]) ∧ Kd.R (Kd.int .i64) 2 w' w.heap.size (fun _ => True) v0_ r1 ∧ Below w.heap.size w w' := by
 have hu59 := Try.underlying59
 have HR0 := jA hr0
 have HC0 := jA hc0
 clear hr0 hc0
 have HR2 := jA hr2
 have HC2 := jA hc2
 clear hr2 hc2
 have HR5 := jA hr5
 have HC5 := jA hc5
 clear hr5 hc5
 have HB := jA (Below.refl w.heap.size w)
 have H : ((impl_stopsAsked.f k l0 a1 l2 a3 a4 l5).bind fun t224 => (if t224 = 0 then (impl_StoppedCues.l0 k l0 a3 a4 l5 ([] : List Int) l2 (l2.length : Int) 0) else (some (([] : List Int), t224)))) = some (r1, r2) := h
 clear h
 replace H := jD.mp H
 obtain ⟨t224, A70, H⟩ := H
 replace H : (if t224 = 0 then (impl_StoppedCues.l0 k l0 a3 a4 l5 ([] : List Int) l2 (l2.length : Int) 0) else (some (([] : List Int), t224))) = some (r1, r2) := H
 have A7 := jA A70
 clear A70
 by_cases c8 : t224 = 0
 ·rw [if_pos c8] at H
  have c8b0 : (t224 == 0) = true := beq_iff_eq.mpr c8
  have c8b1 : (t224 != 0) = false := bne_eq_false_iff_eq.mpr c8
  clear c8
  have H' := jA H
  clear H
  go_enter Try.func45, Try.ntmps45
  go_wp2_with (first | ((with_reducible refine jN (f := 74) rfl ?_); refine goesL_ (some 24) rfl rfl Try.func74 zr rfl #[.slice A0 l0.length c0, .int .i64 a1, .slice A2 l2.length c2, .int .i64 a3, .int .i64 a4, .slice A5 l5.length c5] rfl zm ?_; (with_reducible refine (impl_stopsAsked.calls k _ _ l0 a1 _ _ l2 a3 a4 _ _ l5 t224 _ ?side1 ?side2 ?side3 ?side4 ?side5 ?side6 A7.out).mono ?_); (case side1 => repeat (first | exact HR0.out | (with_reducible refine jR ?_ _) | (with_reducible refine jQ ?_ _) | (with_reducible refine jS ?_))); (case side2 => exact HC0.out); (case side3 => repeat (first | exact HR2.out | (with_reducible refine jR ?_ _) | (with_reducible refine jQ ?_ _) | (with_reducible refine jS ?_))); (case side4 => exact HC2.out); (case side5 => repeat (first | exact HR5.out | (with_reducible refine jR ?_ _) | (with_reducible refine jQ ?_ _) | (with_reducible refine jS ?_))); (case side6 => exact HC5.out); rintro e w9 ⟨rfl, hb⟩; refine ⟨_, rfl, ?_⟩; have n0_ := jA (jV (zb0 HB) hb); clear HB; have HB := n0_; clear n0_; (try clear hb); (try clear hb2); (try clear hk); (try clear hi)))
  go_loopg [15, 30] k (fun kq v15 v30 w' => ∃ (x15_1 : List Int) (x30_1 : Int), v30 = .int .i64 x30_1 ∧ Aside0 (impl_StoppedCues.l0 kq l0 a3 a4 l5 x15_1 l2 (l2.length : Int) x30_1 = some (r1, r2)) ∧ Aside0 (kq ≤ k) ∧ Aside0 (Kd.R (Kd.int .i64) 2 w' w.heap.size (fun _ => True) v15 x15_1) ∧ Aside0 (Below w.heap.size w w'))
  case atStart => exact ⟨(([] : List Int)), (0), zz, H', ⟨Nat.le_refl _⟩, ⟨by first | exact Kd.R_nil _ _ _ _ _ | exact Kd.N_nil _ _ _ _ _ | exact Kd.V_nil _ _ _ _ _ | exact Kd.Q_nil _ _ _ _ _ | exact Kd.S_nil _ _ _ _ _⟩, ⟨zb0 HB⟩⟩
  case round =>
   clear H'
   try clear c2
   try clear p2
   try clear c4
   try clear c5
   try clear c7
   try clear c8
   try clear c8b0
   try clear c8b1
   obtain ⟨x15_1, x30_1, rfl, HA, HK1, HO_15, HB⟩ := hrel
   cases gk with
   | zero => exact absurd HA.out (by simp [impl_StoppedCues.l0])
   | succ k1 =>
    have H := HA.out
    clear HA
    simp only [impl_StoppedCues.l0] at H
    by_cases c10 : x30_1 < (l2.length : Int)
    ·rw [if_pos c10] at H
     have c10b0 : decide (x30_1 < (l2.length : Int)) = true := jP c10
     clear c10
     by_cases c11 : 0 ≤ x30_1
     ·rw [if_pos c11] at H
      have c11b0 : decide (0 ≤ x30_1) = true := jP c11
      clear c11
      by_cases c12 : x30_1 < (l2.length : Int)
      ·rw [if_pos c12] at H
       have c12b0 : decide (x30_1 < (l2.length : Int)) = true := jP c12
       clear c12
       replace H := jD.mp H
       obtain ⟨t227, A130, H⟩ := H
       replace H : (if t227 = true then (if x15_1.length < 17592186044416 then (impl_StoppedCues.l0 k1 l0 a3 a4 l5 (x15_1 ++ [(rd_T59 l2 x30_1).f0]) l2 (l2.length : Int) (wrap64 (x30_1 + 1))) else (none)) else (impl_StoppedCues.l0 k1 l0 a3 a4 l5 x15_1 l2 (l2.length : Int) (wrap64 (x30_1 + 1)))) = some (r1, r2) := H
       have A13 := jA A130
       clear A130
       by_cases c14 : t227 = true
       ·subst c14
        have H1 : (if x15_1.length < 17592186044416 then (impl_StoppedCues.l0 k1 l0 a3 a4 l5 (x15_1 ++ [(rd_T59 l2 x30_1).f0]) l2 (l2.length : Int) (wrap64 (x30_1 + 1))) else (none)) = some (r1, r2) := by rw [if_pos rfl] at H; exact H
        clear H
        have H := H1
        clear H1
        by_cases c15 : x15_1.length < 17592186044416
        ·rw [if_pos c15] at H
         have LMc15 := jA c15
         clear c15
         obtain ⟨y228, hy228⟩ : ∃ y_ : List Int, y_ = (x15_1 ++ [(rd_T59 l2 x30_1).f0]) := ⟨_, rfl⟩
         replace H : (impl_StoppedCues.l0 k1 l0 a3 a4 l5 y228 l2 (l2.length : Int) (wrap64 (x30_1 + 1))) = some (r1, r2) := by first | (rw [hy228]; with_reducible exact H) | (have H2_ := (Option.bind_some _ _).symm.trans H; rw [hy228]; with_reducible exact H2_) | (have H2_ := (Option.bind_some _ _).symm.trans H; with_reducible exact H2_) | with_reducible exact H | (rw [hy228]; exact H) | exact H
         have Ny228 := jA hy228
         clear hy228
         have H' := jA H
         clear H
         have p225 : 0 ≤ (x30_1 : Int) := jB za
         have q225 : x30_1 < (l2.length : Int) := jB za
         obtain ⟨ad225, e225, hx225_0, hx225_1, hx225_2⟩ := at_T59 HR2.out x30_1 p225 q225
         cases e225
         replace hx225_0 := (HB.out.cell (jC w _ hx225_0)).trans hx225_0
         replace hx225_1 := (HB.out.cell (jC w _ hx225_1)).trans hx225_1
         replace hx225_2 := (HB.out.cell (jC w _ hx225_2)).trans hx225_2
         replace p225 := eq_true p225
         replace q225 := eq_true q225
         go_wp2_with (first | ((with_reducible refine gate_dst (N := 17) rfl ?_); refine box_event ?hg (N := 17) ?hd (cs := #[.int .i64 0, .int .i64 0, .int .i64 0]) (t := 59) ?hr ?_; (case hd => rfl); (case hg => rfl); (case hr => first | (go_simp; done) | (go_simp; rfl)); intro gb226 hg w16 hbox hb; have n0_ := jA (jZ (zo HO_15) hb); have n1_ := jA (jV (zb0 HB) hb); have n2_ := jA (hbox); have n3_ := jA ((by rw [hg]; exact (jY (zb0 HB)) : w.heap.size ≤ gb226)); have n4_ := jA ((by rw [hg]; exact (jY (zb0 HB)) : w.heap.size ≤ gb226)); clear HO_15; clear HB; have HO_15 := n0_; have HB := n1_; have BK226 := n2_; have GW226 := n3_; have GE226 := n4_; clear n0_ n1_ n2_ n3_ n4_; clear hb hbox hg; have hcz17_0 : w16.cell? ⟨gb226, 0, none⟩ = some (.int .i64 0) := (jF BK226.out 0).trans rfl; have hcz17_1 : w16.cell? ⟨gb226, 1, none⟩ = some (.int .i64 0) := (jF BK226.out 1).trans rfl; have hcz17_2 : w16.cell? ⟨gb226, 2, none⟩ = some (.int .i64 0) := (jF BK226.out 2).trans rfl; have hfz17_0 := jX BK226.out 0; have hfz17_1 := jX BK226.out 1; have hfz17_2 := jX BK226.out 2) | ((with_reducible refine jN (f := 77) rfl ?_); refine goesL_ (some 39) rfl rfl Try.func77 zr rfl #[.slice A0 l0.length c0, .agg #[.int .i64 ((rd_T59 l2 x30_1).f0), .int .i64 ((rd_T59 l2 x30_1).f1), .int .i64 ((rd_T59 l2 x30_1).f2)], .int .i64 a3, .int .i64 a4, .slice A5 l5.length c5] rfl zm ?_; (with_reducible refine (impl_isStopped.calls k1 _ _ l0 ((rd_T59 l2 x30_1).f0) ((rd_T59 l2 x30_1).f1) ((rd_T59 l2 x30_1).f2) a3 a4 _ _ l5 true _ ?side1 ?side2 ?side3 ?side4 A13.out).mono ?_); (case side1 => exact Kd.C_below HR0.out (zb1 HB GE226)); (case side2 => exact HC0.out); (case side3 => exact Kd.C_below HR5.out (zb1 HB GE226)); (case side4 => exact HC5.out); rintro e w18 ⟨rfl, hb⟩; refine ⟨_, rfl, ?_⟩; have n0_ := jA (jZ (by (with_reducible repeat (first | apply jH | apply jG | apply jK)); exact (Kd.R_mono (Kd.R_far (p := ⟨gb226, 2, none⟩) (Kd.R_far (p := ⟨gb226, 1, none⟩) (Kd.R_far (p := ⟨gb226, 0, none⟩) (Kd.R_types HO_15.out BK226.out (by decide)) (fun _ hk => hk.2) (.int .i64 ((rd_T59 l2 x30_1).f0))) (fun _ hk => hk.2) (.int .i64 ((rd_T59 l2 x30_1).f1))) (fun _ hk => hk.2) (.int .i64 ((rd_T59 l2 x30_1).f2))) (fun _ h_ => h_.1))) hb); have n1_ := jA (blk_below (g := gb226) (o := .cells #[.int .i64 ((rd_T59 l2 x30_1).f0), .int .i64 ((rd_T59 l2 x30_1).f1), .int .i64 ((rd_T59 l2 x30_1).f2)] 59 (0, 0)) (by (with_reducible repeat (first | refine jc ?_ _ | refine jb ?_ | refine jd ?_ _)); refine blk_put (cs := #[.int .i64 ((rd_T59 l2 x30_1).f0), .int .i64 ((rd_T59 l2 x30_1).f1), .int .i64 0]) ?_ 2 _ rfl; (with_reducible repeat (first | refine jc ?_ _ | refine jb ?_ | refine jd ?_ _)); refine blk_put (cs := #[.int .i64 ((rd_T59 l2 x30_1).f0), .int .i64 0, .int .i64 0]) ?_ 1 _ rfl; (with_reducible repeat (first | refine jc ?_ _ | refine jb ?_ | refine jd ?_ _)); refine blk_put (cs := #[.int .i64 0, .int .i64 0, .int .i64 0]) ?_ 0 _ rfl; (with_reducible repeat (first | refine jc ?_ _ | refine jb ?_ | refine jd ?_ _)); exact BK226.out) hb); have n2_ := jA (jV (zb1 HB GE226) hb); clear HO_15; clear BK226; clear HB; have HO_15 := n0_; have BK226 := n1_; have HB := n2_; clear n0_ n1_ n2_; (try clear hb); (try clear hb2); (try clear hk); (try clear hi); have hcz19_0 : w18.cell? ⟨gb226, 0, none⟩ = some (.int .i64 ((rd_T59 l2 x30_1).f0)) := (jF BK226.out 0).trans rfl; have hcz19_1 : w18.cell? ⟨gb226, 1, none⟩ = some (.int .i64 ((rd_T59 l2 x30_1).f1)) := (jF BK226.out 1).trans rfl; have hcz19_2 : w18.cell? ⟨gb226, 2, none⟩ = some (.int .i64 ((rd_T59 l2 x30_1).f2)) := (jF BK226.out 2).trans rfl; have hfz19_0 := jX BK226.out 0; have hfz19_1 := jX BK226.out 1; have hfz19_2 := jX BK226.out 2) | ((with_reducible refine gate_builtin (b := .append) (xs := #[.tmp 40, .tmp 43]) rfl ?_); at_builtin; refine Kd.R_append (Kd.int .i64) (w0 := w) w.heap.size rfl (.tmp 40) (.tmp 43) 32 2 (.int .i64 0) 8 rfl Try.underlying32 info2 rfl (by decide) (by omega) u15 x15_1 ((rd_T59 l2 x30_1).f0) [.int .i64 ((rd_T59 l2 x30_1).f0)] (fun _ => True) (fun _ => False) rfl rfl ?aP (fun _ hk => hk.elim) ?aF ?aO ?aB ?aS ?aL ?_; (case aP => exact rfl); (case aB => exact (zb1 HB GE226)); (case aF => exact (fun _ _ => trivial)); (case aO => exact (zo HO_15)); (case aS => exact (jY (zb1 HB GE226))); (case aL => have := LMc15.out; omega); intro v229 w20 ho hb hg hat; rw [← Ny228.out] at ho; have n0_ := jA (blk_grown (g := gb226) (o := .cells #[.int .i64 ((rd_T59 l2 x30_1).f0), .int .i64 ((rd_T59 l2 x30_1).f1), .int .i64 ((rd_T59 l2 x30_1).f2)] 59 (0, 0)) (zk BK226) hg (Kd.R_ne HO_15.out BK226.out (by decide))); have n1_ := jA (hb); have n2_ := jA (ho); clear BK226; clear HB; clear HO_15; have BK226 := n0_; have HB := n1_; have HO230 := n2_; clear n0_ n1_ n2_; clear ho hb hg hat))
         go_roundg k1
         case measure => have := HK1.out; omega
         case rel => exact ⟨(y228), (wrap64 (x30_1 + 1)), zz, H', ⟨by have := HK1.out; omega⟩, ⟨by (with_reducible repeat (first | apply jH | apply jG | apply jK)); exact HO230.out⟩, ⟨zb1 HB GE226⟩⟩
        ·rw [if_neg c15] at H
         exact absurd H (by simp)
       ·replace c14 := Bool.eq_false_iff.mpr c14
        subst c14
        have H1 : (impl_StoppedCues.l0 k1 l0 a3 a4 l5 x15_1 l2 (l2.length : Int) (wrap64 (x30_1 + 1))) = some (r1, r2) := by rw [if_neg (show ¬ (false = true) by decide)] at H; exact H
        clear H
        have H := H1
        clear H1
        have H' := jA H
        clear H
        have p225 : 0 ≤ (x30_1 : Int) := jB za
        have q225 : x30_1 < (l2.length : Int) := jB za
        obtain ⟨ad225, e225, hx225_0, hx225_1, hx225_2⟩ := at_T59 HR2.out x30_1 p225 q225
        cases e225
        replace hx225_0 := (HB.out.cell (jC w _ hx225_0)).trans hx225_0
        replace hx225_1 := (HB.out.cell (jC w _ hx225_1)).trans hx225_1
        replace hx225_2 := (HB.out.cell (jC w _ hx225_2)).trans hx225_2
        replace p225 := eq_true p225
        replace q225 := eq_true q225
        go_wp2_with (first | ((with_reducible refine gate_dst (N := 17) rfl ?_); refine box_event ?hg (N := 17) ?hd (cs := #[.int .i64 0, .int .i64 0, .int .i64 0]) (t := 59) ?hr ?_; (case hd => rfl); (case hg => rfl); (case hr => first | (go_simp; done) | (go_simp; rfl)); intro gb226 hg w21 hbox hb; have n0_ := jA (jZ (zo HO_15) hb); have n1_ := jA (jV (zb0 HB) hb); have n2_ := jA (hbox); have n3_ := jA ((by rw [hg]; exact (jY (zb0 HB)) : w.heap.size ≤ gb226)); have n4_ := jA ((by rw [hg]; exact (jY (zb0 HB)) : w.heap.size ≤ gb226)); clear HO_15; clear HB; have HO_15 := n0_; have HB := n1_; have BK226 := n2_; have GW226 := n3_; have GE226 := n4_; clear n0_ n1_ n2_ n3_ n4_; clear hb hbox hg; have hcz22_0 : w21.cell? ⟨gb226, 0, none⟩ = some (.int .i64 0) := (jF BK226.out 0).trans rfl; have hcz22_1 : w21.cell? ⟨gb226, 1, none⟩ = some (.int .i64 0) := (jF BK226.out 1).trans rfl; have hcz22_2 : w21.cell? ⟨gb226, 2, none⟩ = some (.int .i64 0) := (jF BK226.out 2).trans rfl; have hfz22_0 := jX BK226.out 0; have hfz22_1 := jX BK226.out 1; have hfz22_2 := jX BK226.out 2) | ((with_reducible refine jN (f := 77) rfl ?_); refine goesL_ (some 39) rfl rfl Try.func77 zr rfl #[.slice A0 l0.length c0, .agg #[.int .i64 ((rd_T59 l2 x30_1).f0), .int .i64 ((rd_T59 l2 x30_1).f1), .int .i64 ((rd_T59 l2 x30_1).f2)], .int .i64 a3, .int .i64 a4, .slice A5 l5.length c5] rfl zm ?_; (with_reducible refine (impl_isStopped.calls k1 _ _ l0 ((rd_T59 l2 x30_1).f0) ((rd_T59 l2 x30_1).f1) ((rd_T59 l2 x30_1).f2) a3 a4 _ _ l5 false _ ?side1 ?side2 ?side3 ?side4 A13.out).mono ?_); (case side1 => exact Kd.C_below HR0.out (zb1 HB GE226)); (case side2 => exact HC0.out); (case side3 => exact Kd.C_below HR5.out (zb1 HB GE226)); (case side4 => exact HC5.out); rintro e w23 ⟨rfl, hb⟩; refine ⟨_, rfl, ?_⟩; have n0_ := jA (jZ (by (with_reducible repeat (first | apply jH | apply jG | apply jK)); exact (Kd.R_mono (Kd.R_far (p := ⟨gb226, 2, none⟩) (Kd.R_far (p := ⟨gb226, 1, none⟩) (Kd.R_far (p := ⟨gb226, 0, none⟩) (Kd.R_types HO_15.out BK226.out (by decide)) (fun _ hk => hk.2) (.int .i64 ((rd_T59 l2 x30_1).f0))) (fun _ hk => hk.2) (.int .i64 ((rd_T59 l2 x30_1).f1))) (fun _ hk => hk.2) (.int .i64 ((rd_T59 l2 x30_1).f2))) (fun _ h_ => h_.1))) hb); have n1_ := jA (blk_below (g := gb226) (o := .cells #[.int .i64 ((rd_T59 l2 x30_1).f0), .int .i64 ((rd_T59 l2 x30_1).f1), .int .i64 ((rd_T59 l2 x30_1).f2)] 59 (0, 0)) (by (with_reducible repeat (first | refine jc ?_ _ | refine jb ?_ | refine jd ?_ _)); refine blk_put (cs := #[.int .i64 ((rd_T59 l2 x30_1).f0), .int .i64 ((rd_T59 l2 x30_1).f1), .int .i64 0]) ?_ 2 _ rfl; (with_reducible repeat (first | refine jc ?_ _ | refine jb ?_ | refine jd ?_ _)); refine blk_put (cs := #[.int .i64 ((rd_T59 l2 x30_1).f0), .int .i64 0, .int .i64 0]) ?_ 1 _ rfl; (with_reducible repeat (first | refine jc ?_ _ | refine jb ?_ | refine jd ?_ _)); refine blk_put (cs := #[.int .i64 0, .int .i64 0, .int .i64 0]) ?_ 0 _ rfl; (with_reducible repeat (first | refine jc ?_ _ | refine jb ?_ | refine jd ?_ _)); exact BK226.out) hb); have n2_ := jA (jV (zb1 HB GE226) hb); clear HO_15; clear BK226; clear HB; have HO_15 := n0_; have BK226 := n1_; have HB := n2_; clear n0_ n1_ n2_; (try clear hb); (try clear hb2); (try clear hk); (try clear hi)))
        go_roundg k1
        case measure => have := HK1.out; omega
        case rel => exact ⟨(x15_1), (wrap64 (x30_1 + 1)), zz, H', ⟨by have := HK1.out; omega⟩, ⟨by (with_reducible repeat (first | apply jH | apply jG | apply jK)); exact HO_15.out⟩, ⟨zb1 HB GE226⟩⟩
      ·rw [if_neg c12] at H
       exact absurd H (by simp)
     ·rw [if_neg c11] at H
      exact absurd H (by simp)
    ·rw [if_neg c10] at H
     have c10b0 : decide (x30_1 < (l2.length : Int)) = false := ja c10
     clear c10
     simp only [je, jg] at H
     obtain ⟨rfl, rfl⟩ := H
     go_wp2
     go_ret2
     exact ⟨_, by first | rfl | (simp [errW_none, errW_some] <;> rfl) | (simp [*, errW_none, errW_some] <;> rfl), by (with_reducible repeat (first | apply jH | apply jG | apply jK)); exact HO_15.out, zb0 HB⟩
 ·rw [if_neg c8] at H
  have c8b0 : (t224 == 0) = false := beq_eq_false_iff_ne.mpr c8
  have c8b1 : (t224 != 0) = true := bne_iff_ne.mpr c8
  simp only [je, jg] at H
  obtain ⟨rfl, rfl⟩ := H
  go_enter Try.func45, Try.ntmps45
  go_wp2_with (first | ((with_reducible refine jN (f := 74) rfl ?_); refine goesL_ (some 24) rfl rfl Try.func74 zr rfl #[.slice A0 l0.length c0, .int .i64 a1, .slice A2 l2.length c2, .int .i64 a3, .int .i64 a4, .slice A5 l5.length c5] rfl zm ?_; (with_reducible refine (impl_stopsAsked.calls k _ _ l0 a1 _ _ l2 a3 a4 _ _ l5 t224 _ ?side1 ?side2 ?side3 ?side4 ?side5 ?side6 A7.out).mono ?_); (case side1 => repeat (first | exact HR0.out | (with_reducible refine jR ?_ _) | (with_reducible refine jQ ?_ _) | (with_reducible refine jS ?_))); (case side2 => exact HC0.out); (case side3 => repeat (first | exact HR2.out | (with_reducible refine jR ?_ _) | (with_reducible refine jQ ?_ _) | (with_reducible refine jS ?_))); (case side4 => exact HC2.out); (case side5 => repeat (first | exact HR5.out | (with_reducible refine jR ?_ _) | (with_reducible refine jQ ?_ _) | (with_reducible refine jS ?_))); (case side6 => exact HC5.out); rintro e w24 ⟨rfl, hb⟩; refine ⟨_, rfl, ?_⟩; have n0_ := jA (jV (zb0 HB) hb); clear HB; have HB := n0_; clear n0_; (try clear hb); (try clear hb2); (try clear hk); (try clear hi)))
  go_ret2
  exact ⟨_, by first | rfl | (simp [errW_none, errW_some] <;> rfl) | (simp [*, errW_none, errW_some] <;> rfl), by first | exact Kd.R_nil _ _ _ _ _ | exact Kd.N_nil _ _ _ _ _ | exact Kd.V_nil _ _ _ _ _ | exact Kd.Q_nil _ _ _ _ _ | exact Kd.S_nil _ _ _ _ _, zb0 HB⟩

/-! ### spec_l01From: function 63 -/
def spec_l01From.l0 : Nat → List Int → Int → List Int → Int → Int → Option (List Int × Int × Int)
 | 0, _, _, _, _, _ => none
 | k + 1, x0, x4, x232000, x232001, x232002 => if x4 < (x0.length : Int) then (if x4 < 64 then (if 0 ≤ x4 then (spec_l01From.l0 k x0 (wrap64 (x4 + 1)) x232000 x232001 (Int.tmod (wrap64 ((wrap64 (x232002 * 83)) + (wrap64 (rd x0 x4)))) 2147483647)) else (none)) else (some (x232000, x232001, x232002))) else (some (x232000, x232001, x232002))
def spec_l01From.f (k : Nat) (l0 : List Int) : Option (List Int × Int × Int) := spec_l01From.l0 k l0 0 l0 0 61043
theorem spec_l01From.mono_l : ∀ k, (∀ y0 y1 y2 y3 y4, LeO (spec_l01From.l0 k y0 y1 y2 y3 y4) (spec_l01From.l0 (k + 1) y0 y1 y2 y3 y4))
 | 0 => fun _ _ _ _ _ r h => by simp [spec_l01From.l0] at h
 | k + 1 => by
  have ih0 := spec_l01From.mono_l k
  ·intro y0 y1 y2 y3 y4
   unfold spec_l01From.l0
   repeat' first
   | (with_reducible exact ih0 _ _ _ _ _)
   | (with_reducible exact LeO.refl _)
   | (with_reducible exact LeO.none _)
   | (with_reducible refine LeO.ite ?_ ?_)
   | (with_reducible refine LeO.bind ?_ (fun _ => ?_))
   | exact ih0 _ _ _ _ _
   | exact LeO.none _
   | refine LeO.ite ?_ ?_
   | refine LeO.bind ?_ (fun _ => ?_)
theorem spec_l01From.mono : ∀ a0 k, LeO (spec_l01From.f k a0) (spec_l01From.f (k + 1) a0) := by
 intro a0 k
 have ih0 := spec_l01From.mono_l k
 unfold spec_l01From.f
 repeat' first
   | (with_reducible exact ih0 _ _ _ _ _)
   | (with_reducible exact LeO.refl _)
   | (with_reducible exact LeO.none _)
   | (with_reducible refine LeO.ite ?_ ?_)
   | (with_reducible refine LeO.bind ?_ (fun _ => ?_))
   | exact ih0 _ _ _ _ _
   | exact LeO.none _
   | refine LeO.ite ?_ ?_
   | refine LeO.bind ?_ (fun _ => ?_)
def spec_l01From.T5 : Bool × List (List Nat × List Nat) := (true, [([], []), ([], []), ([1], [1]), ([2], [2]), ([3], [3]), ([4], [4]), ([], []), ([], []), ([6, 7], [6, 7]), ([8], [8]), ([9], [9]), ([5, 10], [5, 10]), ([11], [11]), ([0, 0, 1, 2, 3, 4, 5, 6, 7, 8, 9, 10, 11, 12], [0]), ([13, 0, 1, 2, 3, 4, 5, 6, 7, 8, 9, 10, 11, 12], [13]), ([14, 12, 0, 1, 2, 3, 4, 5, 6, 7, 8, 9, 10, 11, 12], [12, 14])])
def spec_l01From.B5 : List Nat := [0, 0, 2, 6, 14, 30, 0, 0, 192, 448, 960, 2046, 4094, 8191, 16383, 32767]
theorem spec_l01From.tab5 : rtab .any (opsOf Try.f63 5) = spec_l01From.T5 := by kernel_rfl
theorem spec_l01From.bits5 : waitsOk spec_l01From.T5.2 spec_l01From.B5 = true := by kernel_rfl
set_option maxHeartbeats 8000000 in
set_option maxRecDepth 100000 in
theorem spec_l01From.calls (k : Nat) (A0 : Option Addr) (c0 : Nat) (l0 : List Int) (r1 : List Int) (r2 : Int) (r3 : Int) (w0 w : World) (hB : Below w0.heap.size w0 w) (hr0 : Kd.C (Kd.int .u8) w0 A0 l0.length l0) (hc0 : l0.length ≤ c0) (h : spec_l01From.f k l0 = some (r1, r2, r3)) :
  Calls Try.prog 63 #[.slice A0 l0.length c0] w fun e w' => ∃ g_ : Nat, e = .returned (.pointer (some ⟨g_, 0, none⟩)) ∧ IsS91 w0 w' g_ r1 r2 r3 ∧ Below w0.heap.size w0 w' ∧ Below w.heap.size w w' := by
 have hu91 := Try.underlying91
 have HR0 := jA hr0
 have HC0 := jA hc0
 clear hr0 hc0
 have HBW := jA (Below.refl w.heap.size w)
 have HW0 := jA hB.size
 have HB := jA hB
 clear hB
 have H : (spec_l01From.l0 k l0 0 l0 0 61043) = some (r1, r2, r3) := h
 clear h
 have H' := jA H
 clear H
 go_enter Try.func63, Try.ntmps63
 go_wp2_with (first | ((with_reducible refine gate_dst (N := 7) rfl ?_); refine box_event ?hg (N := 7) ?hd (cs := #[.slice A0 l0.length c0, .int .i64 0, .int .i64 61043]) (t := 91) ?hr ?_; (case hd => rfl); (case hg => rfl); (case hr => first | (go_simp; done) | (go_simp; rfl)); intro gb231 hg w2 hbox hb; have n0_ := jA (jV HBW.out hb); have n1_ := jA (jV (zb0 HB) hb); have n2_ := jA (hbox); have n3_ := jA ((by rw [hg]; exact (jY (by repeat (first | (with_reducible first | exact HBW.out | apply jM | apply jE | apply jI) | exact HBW.out))) : w.heap.size ≤ gb231)); have n4_ := jA ((Nat.le_trans HW0.out (by rw [hg]; exact (jY (by repeat (first | (with_reducible first | exact HBW.out | apply jM | apply jE | apply jI) | exact HBW.out))) : w.heap.size ≤ gb231) : w0.heap.size ≤ gb231)); clear HBW; clear HB; have HBW := n0_; have HB := n1_; have BK231 := n2_; have GW231 := n3_; have GE231 := n4_; clear n0_ n1_ n2_ n3_ n4_; clear hb hbox hg))
 go_loopg [4] k (fun kq v4 w' => ∃ (x4_1 : Int) (x232002_1 : Int), v4 = .int .i64 x4_1 ∧ Aside0 (spec_l01From.l0 kq l0 x4_1 l0 0 x232002_1 = some (r1, r2, r3)) ∧ Aside0 (kq ≤ k) ∧ Aside0 (w'.heap[gb231]? = some (.cells #[(.slice A0 l0.length c0), .int .i64 0, .int .i64 x232002_1] 91 (0, 0))) ∧ Aside0 (Below w0.heap.size w0 w') ∧ Aside0 (Below w.heap.size w w'))
 case atStart => exact ⟨(0), (61043), zz, H', ⟨Nat.le_refl _⟩, ⟨by (with_reducible repeat (first | refine jc ?_ _ | refine jb ?_ | refine jd ?_ _)); exact BK231.out⟩, ⟨zb1 HB GE231⟩, ⟨by repeat (first | (with_reducible first | exact HBW.out | apply jM | apply jE | apply jI | refine jL ?_ GW231.out) | exact HBW.out)⟩⟩
 case round =>
  clear H'
  try clear p2
  obtain ⟨x4_1, x232002_1, rfl, HA, HK1, BK231, HB, HBW⟩ := hrel
  cases gk with
  | zero => exact absurd HA.out (by simp [spec_l01From.l0])
  | succ k1 =>
   have H := HA.out
   clear HA
   simp only [spec_l01From.l0] at H
   by_cases c3 : x4_1 < (l0.length : Int)
   ·rw [if_pos c3] at H
    have c3b0 : decide (x4_1 < (l0.length : Int)) = true := jP c3
    clear c3
    by_cases c4 : x4_1 < 64
    ·rw [if_pos c4] at H
     have c4b0 : decide (x4_1 < 64) = true := jP c4
     clear c4
     by_cases c5 : 0 ≤ x4_1
     ·rw [if_pos c5] at H
      have c5b0 : decide (0 ≤ x4_1) = true := jP c5
      clear c5
      have H' := jA H
      clear H
      try go_wp2
      have n0_ := jA (jb BK231.out)
      have n1_ := jA (jI HB.out)
      have n2_ := jA (jI HBW.out)
      clear HBW
      have HBW := n2_
      clear n2_
      clear BK231
      clear HB
      have BK231 := n0_
      have HB := n1_
      clear n0_ n1_
      have p232 : 0 ≤ (x4_1 : Int) := jB za
      have q232 : x4_1 < (l0.length : Int) := jB za
      obtain ⟨ad232, e232, hx232_0⟩ := jh HR0.out x4_1 p232 q232
      have hw232_0 := hx232_0
      cases e232
      replace hx232_0 := pw_cell_below HB.out hx232_0
      replace p232 := eq_true p232
      replace q232 := eq_true q232
      refine start_ (n := 16) (S := fun w' => w'.cell? ⟨gb231, 0, none⟩ = some (.slice (some ad232) l0.length c0) ∧ w'.cell? ⟨gb231, 1, none⟩ = some (.int .i64 0) ∧ w'.cell? ⟨gb231, 2, none⟩ = some (.int .i64 x232002_1) ∧ w'.cell? (ad232.add (x4_1).toNat) = some (.int .u8 (rd l0 x4_1))) (ds := [15]) #[false, false, false, false, false, false, false, false, false, false, false, false, false, false, false, false] zr rfl rfl ⟨(jF BK231.out 0).trans rfl, (jF BK231.out 1).trans rfl, (jF BK231.out 2).trans rfl, ((HB.out.cell (jC _ _ hw232_0)).trans hw232_0)⟩ (fun hHeld => ?_); refine with_tabW spec_l01From.tab5 spec_l01From.bits5 (fun HT_ HW_ => ?_)
      generalize wr.drew = w6 at BK231 HB HBW hx232_0 hHeld ⊢
      refine zp HT_ 0 18 #[true, false, false, false, false, false, false, false, false, false, false, false, false, false, false, false] ?_
      refine zp HT_ 1 19 #[true, true, false, false, false, false, false, false, false, false, false, false, false, false, false, false] ?_
      refine zp HT_ 2 20 #[true, true, true, false, false, false, false, false, false, false, false, false, false, false, false, false] ?_
      refine zp HT_ 3 21 #[true, true, true, true, false, false, false, false, false, false, false, false, false, false, false, false] ?_
      refine zp HT_ 6 24 #[true, true, true, true, false, false, true, false, false, false, false, false, false, false, false, false] ?_
      refine zp HT_ 7 25 #[true, true, true, true, false, false, true, true, false, false, false, false, false, false, false, false] ?_
      refine zp HT_ 8 26 #[true, true, true, true, false, false, true, true, true, false, false, false, false, false, false, false] ?_
      refine zt4 HT_ HW_ hHeld 4 22 #[true, true, true, true, true, false, true, true, true, false, false, false, false, false, false, false] ?_
      refine zp HT_ 5 23 #[true, true, true, true, true, true, true, true, true, false, false, false, false, false, false, false] ?_
      refine zt4 HT_ HW_ hHeld 9 27 #[true, true, true, true, true, true, true, true, true, true, false, false, false, false, false, false] ?_
      refine zp HT_ 10 28 #[true, true, true, true, true, true, true, true, true, true, true, false, false, false, false, false] ?_
      refine zp HT_ 11 29 #[true, true, true, true, true, true, true, true, true, true, true, true, false, false, false, false] ?_
      refine zp HT_ 12 30 #[true, true, true, true, true, true, true, true, true, true, true, true, true, false, false, false] ?_
      refine zp HT_ 13 31 #[true, true, true, true, true, true, true, true, true, true, true, true, true, true, false, false] ?_
      refine zp HT_ 14 32 #[true, true, true, true, true, true, true, true, true, true, true, true, true, true, true, false] ?_
      refine last_ (i := 15) (N := none) #[true, true, true, true, true, true, true, true, true, true, true, true, true, true, true, true] rfl rfl (one_of HT_.out zr) (by decide) (fun K hK => ?_)
      have hs7 : w6.cell? ⟨gb231, 2, none⟩ = some (.int .i64 x232002_1) := (jF BK231.out 2).trans rfl
      have hfs7 := jX BK231.out 2
      refine skip_ (w1 := ?_) (by rfl) rfl ?_ ?_
      rotate_left
      ·go_simp
       rfl
      refine hK.out _ _ ?_
      clear hK K
      refine done_ (done_of HT_.out zr) ?_
      try go_wp2
      go_roundg k1
      case measure => have := HK1.out; omega
      case rel => exact ⟨(wrap64 (x4_1 + 1)), (Int.tmod (wrap64 ((wrap64 (x232002_1 * 83)) + (wrap64 (rd l0 x4_1)))) 2147483647), zz, H', ⟨by have := HK1.out; omega⟩, ⟨by (with_reducible repeat (first | refine jc ?_ _ | refine jb ?_ | refine jd ?_ _)); refine blk_put (cs := #[.slice (some ad232) l0.length c0, .int .i64 0, .int .i64 x232002_1]) ?_ 2 _ rfl; (with_reducible repeat (first | refine jc ?_ _ | refine jb ?_ | refine jd ?_ _)); exact BK231.out⟩, ⟨zb1 HB GE231⟩, ⟨by repeat (first | (with_reducible first | exact HBW.out | apply jM | apply jE | apply jI | refine jL ?_ GW231.out) | exact HBW.out)⟩⟩
     ·rw [if_neg c5] at H
      exact absurd H (by simp)
    ·rw [if_neg c4] at H
     have c4b0 : decide (x4_1 < 64) = false := ja c4
     clear c4
     simp only [je, jg] at H
     obtain ⟨rfl, rfl, rfl⟩ := H
     go_wp2
     go_ret
     exact ⟨_, rfl, (show IsS91 w0 _ gb231 l0 0 x232002_1 from ⟨_, _, by (with_reducible repeat (first | refine jc ?_ _ | refine jb ?_ | refine jd ?_ _)); exact BK231.out, GE231.out, HR0.out⟩), zb1 HB GE231, by repeat (first | (with_reducible first | exact HBW.out | apply jM | apply jE | apply jI | refine jL ?_ GW231.out) | exact HBW.out)⟩
   ·rw [if_neg c3] at H
    have c3b0 : decide (x4_1 < (l0.length : Int)) = false := ja c3
    clear c3
    simp only [je, jg] at H
    obtain ⟨rfl, rfl, rfl⟩ := H
    go_wp2
    go_ret
    exact ⟨_, rfl, (show IsS91 w0 _ gb231 l0 0 x232002_1 from ⟨_, _, by (with_reducible repeat (first | refine jc ?_ _ | refine jb ?_ | refine jd ?_ _)); exact BK231.out, GE231.out, HR0.out⟩), zb1 HB GE231, by repeat (first | (with_reducible first | exact HBW.out | apply jM | apply jE | apply jI | refine jL ?_ GW231.out) | exact HBW.out)⟩

/-! ### spec_l01Next: function 66 -/
def spec_l01Next.f (s0_0 : List Int) (s0_1 : Int) (s0_2 : Int) (a1 : Int) : Option (Int × Int × Int) := if a1 ≤ 1 then (some (0, s0_1, s0_2)) else (if s0_1 < (s0_0.length : Int) then (if 0 ≤ s0_1 then (if a1 ≤ 256 then (if (Int.tmod (wrap64 (s0_1 + 1)) 2) = 0 then (if 0 ≤ (wrap64 ((wrap64 (s0_1 + 1)) - 1)) then (if (wrap64 ((wrap64 (s0_1 + 1)) - 1)) < (s0_0.length : Int) then (if a1 = 0 then (none) else (some (Int.tmod (wrap64 (rd s0_0 (wrap64 ((wrap64 (s0_1 + 1)) - 1)))) a1, wrap64 (s0_1 + 1), Int.tmod (wrap64 ((wrap64 (s0_2 * 48271)) + 29)) 2147483647))) else (none)) else (none)) else (if a1 = 0 then (none) else (some (Int.tmod (wrap64 ((wrap64 (Int.tdiv (Int.tmod (wrap64 ((wrap64 (s0_2 * 48271)) + 29)) 2147483647) 31)) + (wrap64 (rd s0_0 s0_1)))) a1, wrap64 (s0_1 + 1), Int.tmod (wrap64 ((wrap64 (s0_2 * 48271)) + 29)) 2147483647)))) else (if a1 = 0 then (none) else (some (Int.tmod (wrap64 ((wrap64 (Int.tdiv (Int.tmod (wrap64 ((wrap64 (s0_2 * 48271)) + 29)) 2147483647) 31)) + (wrap64 (rd s0_0 s0_1)))) a1, wrap64 (s0_1 + 1), Int.tmod (wrap64 ((wrap64 (s0_2 * 48271)) + 29)) 2147483647)))) else (none)) else (if a1 = 0 then (none) else (some (Int.tmod (wrap64 (Int.tdiv (Int.tmod (wrap64 ((wrap64 (s0_2 * 48271)) + 29)) 2147483647) 31)) a1, s0_1, Int.tmod (wrap64 ((wrap64 (s0_2 * 48271)) + 29)) 2147483647))))
set_option maxHeartbeats 8000000 in
set_option maxRecDepth 100000 in
theorem spec_l01Next.calls (g : Nat) (s0_0 : List Int) (s0_1 : Int) (s0_2 : Int) (a1 : Int) (r1 : Int) (r2 : Int) (r3 : Int) (w0 w : World) (hI : IsS91 w0 w g s0_0 s0_1 s0_2) (hB : Below w0.heap.size w0 w) (h : spec_l01Next.f s0_0 s0_1 s0_2 a1 = some (r1, r2, r3)) :
  Calls Try.prog 66 #[.pointer (some ⟨g, 0, none⟩), .int .i64 a1] w fun e w' => e = .returned (.int .i64 r1) ∧ IsS91 w0 w' g s0_0 r2 r3 ∧ Below w0.heap.size w0 w' ∧ KeepBut w w' g none := by
 have HI0 := jA hI
 have HK := jA (KeepBut.refl w g none)
 have HL := jA hB.size
 clear hI
 have HW0 := jA hB.size
 have HB := jA hB
 clear hB
 have H : (if a1 ≤ 1 then (some (0, s0_1, s0_2)) else (if s0_1 < (s0_0.length : Int) then (if 0 ≤ s0_1 then (if a1 ≤ 256 then (if (Int.tmod (wrap64 (s0_1 + 1)) 2) = 0 then (if 0 ≤ (wrap64 ((wrap64 (s0_1 + 1)) - 1)) then (if (wrap64 ((wrap64 (s0_1 + 1)) - 1)) < (s0_0.length : Int) then (if a1 = 0 then (none) else (some (Int.tmod (wrap64 (rd s0_0 (wrap64 ((wrap64 (s0_1 + 1)) - 1)))) a1, wrap64 (s0_1 + 1), Int.tmod (wrap64 ((wrap64 (s0_2 * 48271)) + 29)) 2147483647))) else (none)) else (none)) else (if a1 = 0 then (none) else (some (Int.tmod (wrap64 ((wrap64 (Int.tdiv (Int.tmod (wrap64 ((wrap64 (s0_2 * 48271)) + 29)) 2147483647) 31)) + (wrap64 (rd s0_0 s0_1)))) a1, wrap64 (s0_1 + 1), Int.tmod (wrap64 ((wrap64 (s0_2 * 48271)) + 29)) 2147483647)))) else (if a1 = 0 then (none) else (some (Int.tmod (wrap64 ((wrap64 (Int.tdiv (Int.tmod (wrap64 ((wrap64 (s0_2 * 48271)) + 29)) 2147483647) 31)) + (wrap64 (rd s0_0 s0_1)))) a1, wrap64 (s0_1 + 1), Int.tmod (wrap64 ((wrap64 (s0_2 * 48271)) + 29)) 2147483647)))) else (none)) else (if a1 = 0 then (none) else (some (Int.tmod (wrap64 (Int.tdiv (Int.tmod (wrap64 ((wrap64 (s0_2 * 48271)) + 29)) 2147483647) 31)) a1, s0_1, Int.tmod (wrap64 ((wrap64 (s0_2 * 48271)) + 29)) 2147483647))))) = some (r1, r2, r3) := h
 clear h
 by_cases c3 : a1 ≤ 1
 ·rw [if_pos c3] at H
  have c3b0 : decide (a1 ≤ 1) = true := jP c3
  clear c3
  simp only [je, jg] at H
  obtain ⟨rfl, rfl, rfl⟩ := H
  go_enter Try.func66, Try.ntmps66
  go_wp2
  repeat (go_quiet (fail); try go_wp2)
  go_ret
  exact ⟨by first | rfl | (simp [errW_none, errW_some] <;> rfl) | (simp [*, errW_none, errW_some] <;> rfl), by repeat (first | (with_reducible first | exact HI0.out | apply IsS91.alloc | apply IsS91.drewN | apply IsS91.drew | apply IsS91.set_1 | apply IsS91.set_2) | exact HI0.out), by repeat (first | (with_reducible first | exact HB.out | apply jM | apply jE | apply jI | refine jL ?_ (IsS91.ge HI0.out)) | exact HB.out), zh0 HK⟩
 ·rw [if_neg c3] at H
  have c3b0 : decide (a1 ≤ 1) = false := ja c3
  clear c3
  by_cases c4 : s0_1 < (s0_0.length : Int)
  ·rw [if_pos c4] at H
   have c4b0 : decide (s0_1 < (s0_0.length : Int)) = true := jP c4
   clear c4
   by_cases c5 : 0 ≤ s0_1
   ·rw [if_pos c5] at H
    have c5b0 : decide (0 ≤ s0_1) = true := jP c5
    clear c5
    by_cases c6 : a1 ≤ 256
    ·rw [if_pos c6] at H
     have c6b0 : decide (a1 ≤ 256) = true := jP c6
     clear c6
     by_cases c7 : (Int.tmod (wrap64 (s0_1 + 1)) 2) = 0
     ·rw [if_pos c7] at H
      have c7b0 : ((Int.tmod (wrap64 (s0_1 + 1)) 2) == 0) = true := beq_iff_eq.mpr c7
      have c7b1 : ((Int.tmod (wrap64 (s0_1 + 1)) 2) != 0) = false := bne_eq_false_iff_eq.mpr c7
      clear c7
      obtain ⟨ji8, hji8⟩ : ∃ j_ : Int, (wrap64 ((wrap64 (s0_1 + 1)) - 1)) = j_ := ⟨_, rfl⟩
      replace H : (if 0 ≤ (ji8) then (if (ji8) < (s0_0.length : Int) then (if a1 = 0 then (none) else (some (Int.tmod (wrap64 (rd s0_0 (ji8))) a1, wrap64 (s0_1 + 1), Int.tmod (wrap64 ((wrap64 (s0_2 * 48271)) + 29)) 2147483647))) else (none)) else (none)) = some (r1, r2, r3) := by first | (rw [hji8] at H; exact H) | (simp only [hji8] at H ⊢; exact H)
      have hji8w : (IntKind.i64.wrap ((wrap64 (s0_1 + 1)) - 1)) = ji8 := (i64_w _).trans hji8
      by_cases c9 : 0 ≤ (ji8)
      ·rw [if_pos c9] at H
       have c9b0 : decide (0 ≤ (ji8)) = true := jP c9
       clear c9
       by_cases c10 : (ji8) < (s0_0.length : Int)
       ·rw [if_pos c10] at H
        have c10b0 : decide ((ji8) < (s0_0.length : Int)) = true := jP c10
        clear c10
        by_cases c11 : a1 = 0
        ·rw [if_pos c11] at H
         exact absurd H (by simp)
        ·rw [if_neg c11] at H
         have c11b0 : (a1 == 0) = false := beq_eq_false_iff_ne.mpr c11
         have c11b1 : (a1 != 0) = true := bne_iff_ne.mpr c11
         simp only [je, jg] at H
         obtain ⟨rfl, rfl, rfl⟩ := H
         obtain ⟨ASz12_0, cSz12_0, HGz12, hgz12, HSz12_0⟩ := HI0.out
         have hcz12_0 := cellS91_0 HGz12
         have hcz12_1 := cellS91_1 HGz12
         have hcz12_2 := cellS91_2 HGz12
         have hfz12_1 := jX HGz12 1
         have hfz12_2 := jX HGz12 2
         clear HGz12 hgz12
         have p233 : 0 ≤ (s0_1 : Int) := jB za
         have q233 : s0_1 < (s0_0.length : Int) := jB za
         obtain ⟨ad233, e233, hx233_0⟩ := jh HSz12_0 s0_1 p233 q233
         cases e233
         have hn233_0 : ad233.block ≠ g := Nat.ne_of_lt (Nat.lt_of_lt_of_le (by have := jC _ _ hx233_0; first | rwa [add_block] at this | exact this) (IsS91.ge HI0.out))
         replace hx233_0 := pw_cell_below HB.out hx233_0
         replace hx233_0 := (cell_far (p := ⟨g, 2, none⟩) (by first | (rw [add_block]; exact hn233_0) | (show (Addr.add _ _).block ≠ _; rw [add_block]; exact hn233_0) | exact hn233_0) (.int .i64 (Int.tmod (wrap64 ((wrap64 (s0_2 * 48271)) + 29)) 2147483647))).trans hx233_0
         (try have hy233_0 := fun (n_ : Nat) => (show (((w.drewN n_).setCell ⟨g, 2, none⟩ (.int .i64 (Int.tmod (wrap64 ((wrap64 (s0_2 * 48271)) + 29)) 2147483647)))).cell? _ = some _ from hx233_0))
         clear hn233_0
         replace p233 := eq_true p233
         replace q233 := eq_true q233
         have p234 : 0 ≤ ((ji8) : Int) := jB za
         have q234 : (ji8) < (s0_0.length : Int) := jB za
         obtain ⟨ad234, e234, hx234_0⟩ := jh HSz12_0 (ji8) p234 q234
         obtain rfl : ad233 = ad234 := (by injection e234)
         have hn234_0 : ad233.block ≠ g := Nat.ne_of_lt (Nat.lt_of_lt_of_le (by have := jC _ _ hx234_0; first | rwa [add_block] at this | exact this) (IsS91.ge HI0.out))
         have hn234_1 : ad233.block ≠ g := Nat.ne_of_lt (Nat.lt_of_lt_of_le (by have := jC _ _ hx234_0; first | rwa [add_block] at this | exact this) (IsS91.ge HI0.out))
         replace hx234_0 := pw_cell_below HB.out hx234_0
         replace hx234_0 := (cell_far (p := ⟨g, 2, none⟩) (by first | (rw [add_block]; exact hn234_0) | (show (Addr.add _ _).block ≠ _; rw [add_block]; exact hn234_0) | exact hn234_0) (.int .i64 (Int.tmod (wrap64 ((wrap64 (s0_2 * 48271)) + 29)) 2147483647))).trans hx234_0
         replace hx234_0 := (cell_far (p := ⟨g, 1, none⟩) (by first | (rw [add_block]; exact hn234_1) | (show (Addr.add _ _).block ≠ _; rw [add_block]; exact hn234_1) | exact hn234_1) (.int .i64 (wrap64 (s0_1 + 1)))).trans hx234_0
         (try have hy234_0 := fun (n_ : Nat) => (show ((((w.drewN n_).setCell ⟨g, 2, none⟩ (.int .i64 (Int.tmod (wrap64 ((wrap64 (s0_2 * 48271)) + 29)) 2147483647))).setCell ⟨g, 1, none⟩ (.int .i64 (wrap64 (s0_1 + 1))))).cell? _ = some _ from hx234_0))
         (try have hv234_0 := fun (n_ : Nat) => (show ((((w.setCell ⟨g, 2, none⟩ (.int .i64 (Int.tmod (wrap64 ((wrap64 (s0_2 * 48271)) + 29)) 2147483647))).drewN n_).setCell ⟨g, 1, none⟩ (.int .i64 (wrap64 (s0_1 + 1))))).cell? _ = some _ from hx234_0))
         clear hn234_0
         clear hn234_1
         replace p234 := eq_true p234
         replace q234 := eq_true q234
         go_enter Try.func66, Try.ntmps66
         go_wp2
         repeat (go_quiet (fail); try go_wp2)
         go_ret
         exact ⟨by first | rfl | (simp [errW_none, errW_some] <;> rfl) | (simp only [← hji8]; first | rfl | (simp [errW_none, errW_some] <;> rfl)) | (simp [*, errW_none, errW_some] <;> rfl), by repeat (first | (with_reducible first | exact HI0.out | apply IsS91.alloc | apply IsS91.drewN | apply IsS91.drew | apply IsS91.set_1 | apply IsS91.set_2) | exact HI0.out), by repeat (first | (with_reducible first | exact HB.out | apply jM | apply jE | apply jI | refine jL ?_ (IsS91.ge HI0.out)) | exact HB.out), zh0 HK⟩
       ·rw [if_neg c10] at H
        exact absurd H (by simp)
      ·rw [if_neg c9] at H
       exact absurd H (by simp)
     ·rw [if_neg c7] at H
      have c7b0 : ((Int.tmod (wrap64 (s0_1 + 1)) 2) == 0) = false := beq_eq_false_iff_ne.mpr c7
      have c7b1 : ((Int.tmod (wrap64 (s0_1 + 1)) 2) != 0) = true := bne_iff_ne.mpr c7
      by_cases c13 : a1 = 0
      ·rw [if_pos c13] at H
       exact absurd H (by simp)
      ·rw [if_neg c13] at H
       have c13b0 : (a1 == 0) = false := beq_eq_false_iff_ne.mpr c13
       have c13b1 : (a1 != 0) = true := bne_iff_ne.mpr c13
       simp only [je, jg] at H
       obtain ⟨rfl, rfl, rfl⟩ := H
       obtain ⟨ASz14_0, cSz14_0, HGz14, hgz14, HSz14_0⟩ := HI0.out
       have hcz14_0 := cellS91_0 HGz14
       have hcz14_1 := cellS91_1 HGz14
       have hcz14_2 := cellS91_2 HGz14
       have hfz14_1 := jX HGz14 1
       have hfz14_2 := jX HGz14 2
       clear HGz14 hgz14
       have p233 : 0 ≤ (s0_1 : Int) := jB za
       have q233 : s0_1 < (s0_0.length : Int) := jB za
       obtain ⟨ad233, e233, hx233_0⟩ := jh HSz14_0 s0_1 p233 q233
       cases e233
       have hn233_0 : ad233.block ≠ g := Nat.ne_of_lt (Nat.lt_of_lt_of_le (by have := jC _ _ hx233_0; first | rwa [add_block] at this | exact this) (IsS91.ge HI0.out))
       replace hx233_0 := pw_cell_below HB.out hx233_0
       replace hx233_0 := (cell_far (p := ⟨g, 2, none⟩) (by first | (rw [add_block]; exact hn233_0) | (show (Addr.add _ _).block ≠ _; rw [add_block]; exact hn233_0) | exact hn233_0) (.int .i64 (Int.tmod (wrap64 ((wrap64 (s0_2 * 48271)) + 29)) 2147483647))).trans hx233_0
       (try have hy233_0 := fun (n_ : Nat) => (show (((w.drewN n_).setCell ⟨g, 2, none⟩ (.int .i64 (Int.tmod (wrap64 ((wrap64 (s0_2 * 48271)) + 29)) 2147483647)))).cell? _ = some _ from hx233_0))
       clear hn233_0
       replace p233 := eq_true p233
       replace q233 := eq_true q233
       go_enter Try.func66, Try.ntmps66
       go_wp2
       repeat (go_quiet (fail); try go_wp2)
       go_ret
       exact ⟨by first | rfl | (simp [errW_none, errW_some] <;> rfl) | (simp [*, errW_none, errW_some] <;> rfl), by repeat (first | (with_reducible first | exact HI0.out | apply IsS91.alloc | apply IsS91.drewN | apply IsS91.drew | apply IsS91.set_1 | apply IsS91.set_2) | exact HI0.out), by repeat (first | (with_reducible first | exact HB.out | apply jM | apply jE | apply jI | refine jL ?_ (IsS91.ge HI0.out)) | exact HB.out), zh0 HK⟩
    ·rw [if_neg c6] at H
     have c6b0 : decide (a1 ≤ 256) = false := ja c6
     clear c6
     by_cases c15 : a1 = 0
     ·rw [if_pos c15] at H
      exact absurd H (by simp)
     ·rw [if_neg c15] at H
      have c15b0 : (a1 == 0) = false := beq_eq_false_iff_ne.mpr c15
      have c15b1 : (a1 != 0) = true := bne_iff_ne.mpr c15
      simp only [je, jg] at H
      obtain ⟨rfl, rfl, rfl⟩ := H
      obtain ⟨ASz16_0, cSz16_0, HGz16, hgz16, HSz16_0⟩ := HI0.out
      have hcz16_0 := cellS91_0 HGz16
      have hcz16_1 := cellS91_1 HGz16
      have hcz16_2 := cellS91_2 HGz16
      have hfz16_1 := jX HGz16 1
      have hfz16_2 := jX HGz16 2
      clear HGz16 hgz16
      have p233 : 0 ≤ (s0_1 : Int) := jB za
      have q233 : s0_1 < (s0_0.length : Int) := jB za
      obtain ⟨ad233, e233, hx233_0⟩ := jh HSz16_0 s0_1 p233 q233
      cases e233
      have hn233_0 : ad233.block ≠ g := Nat.ne_of_lt (Nat.lt_of_lt_of_le (by have := jC _ _ hx233_0; first | rwa [add_block] at this | exact this) (IsS91.ge HI0.out))
      replace hx233_0 := pw_cell_below HB.out hx233_0
      replace hx233_0 := (cell_far (p := ⟨g, 2, none⟩) (by first | (rw [add_block]; exact hn233_0) | (show (Addr.add _ _).block ≠ _; rw [add_block]; exact hn233_0) | exact hn233_0) (.int .i64 (Int.tmod (wrap64 ((wrap64 (s0_2 * 48271)) + 29)) 2147483647))).trans hx233_0
      (try have hy233_0 := fun (n_ : Nat) => (show (((w.drewN n_).setCell ⟨g, 2, none⟩ (.int .i64 (Int.tmod (wrap64 ((wrap64 (s0_2 * 48271)) + 29)) 2147483647)))).cell? _ = some _ from hx233_0))
      clear hn233_0
      replace p233 := eq_true p233
      replace q233 := eq_true q233
      go_enter Try.func66, Try.ntmps66
      go_wp2
      repeat (go_quiet (fail); try go_wp2)
      go_ret
      exact ⟨by first | rfl | (simp [errW_none, errW_some] <;> rfl) | (simp [*, errW_none, errW_some] <;> rfl), by repeat (first | (with_reducible first | exact HI0.out | apply IsS91.alloc | apply IsS91.drewN | apply IsS91.drew | apply IsS91.set_1 | apply IsS91.set_2) | exact HI0.out), by repeat (first | (with_reducible first | exact HB.out | apply jM | apply jE | apply jI | refine jL ?_ (IsS91.ge HI0.out)) | exact HB.out), zh0 HK⟩
   ·rw [if_neg c5] at H
    exact absurd H (by simp)
  ·rw [if_neg c4] at H
   have c4b0 : decide (s0_1 < (s0_0.length : Int)) = false := ja c4
   clear c4
   by_cases c17 : a1 = 0
   ·rw [if_pos c17] at H
    exact absurd H (by simp)
   ·rw [if_neg c17] at H
    have c17b0 : (a1 == 0) = false := beq_eq_false_iff_ne.mpr c17
    have c17b1 : (a1 != 0) = true := bne_iff_ne.mpr c17
    simp only [je, jg] at H
    obtain ⟨rfl, rfl, rfl⟩ := H
    obtain ⟨ASz18_0, cSz18_0, HGz18, hgz18, HSz18_0⟩ := HI0.out
    have hcz18_0 := cellS91_0 HGz18
    have hcz18_1 := cellS91_1 HGz18
    have hcz18_2 := cellS91_2 HGz18
    have hfz18_1 := jX HGz18 1
    have hfz18_2 := jX HGz18 2
    clear HGz18 hgz18
    go_enter Try.func66, Try.ntmps66
    go_wp2
    repeat (go_quiet (fail); try go_wp2)
    go_ret
    exact ⟨by first | rfl | (simp [errW_none, errW_some] <;> rfl) | (simp [*, errW_none, errW_some] <;> rfl), by repeat (first | (with_reducible first | exact HI0.out | apply IsS91.alloc | apply IsS91.drewN | apply IsS91.drew | apply IsS91.set_1 | apply IsS91.set_2) | exact HI0.out), by repeat (first | (with_reducible first | exact HB.out | apply jM | apply jE | apply jI | refine jL ?_ (IsS91.ge HI0.out)) | exact HB.out), zh0 HK⟩

/-! ### spec_l01Pick: function 65 -/
def spec_l01Pick.f (s0_0 : List Int) (s0_1 : Int) (s0_2 : Int) (l1 : List Int) : Option (Int × Int × Int) := (spec_l01Next.f s0_0 s0_1 s0_2 (l1.length : Int)).bind fun bt235 => (if 0 ≤ bt235.1 then (if bt235.1 < (l1.length : Int) then (some (rd l1 bt235.1, bt235.2.1, bt235.2.2)) else (none)) else (none))
set_option maxHeartbeats 8000000 in
set_option maxRecDepth 100000 in
theorem spec_l01Pick.calls (g : Nat) (s0_0 : List Int) (s0_1 : Int) (s0_2 : Int) (A1 : Option Addr) (c1 : Nat) (l1 : List Int) (r1 : Int) (r2 : Int) (r3 : Int) (w0 w : World) (hI : IsS91 w0 w g s0_0 s0_1 s0_2) (hB : Below w0.heap.size w0 w) (hr1 : Kd.C (Kd.int .i64) w A1 l1.length l1) (hc1 : l1.length ≤ c1) (hf1 : ∀ ad, A1 = some ad → 0 < l1.length → ad.block ≠ g) (h : spec_l01Pick.f s0_0 s0_1 s0_2 l1 = some (r1, r2, r3)) :
  Calls Try.prog 65 #[.pointer (some ⟨g, 0, none⟩), .slice A1 l1.length c1] w fun e w' => e = .returned (.int .i64 r1) ∧ IsS91 w0 w' g s0_0 r2 r3 ∧ Below w0.heap.size w0 w' ∧ KeepBut w w' g none := by
 have HR1 := jA hr1
 have HC1 := jA hc1
 clear hr1 hc1
 have HI0 := jA hI
 have HK := jA (KeepBut.refl w g none)
 have HL := jA hB.size
 clear hI
 have HW0 := jA hB.size
 have HB := jA hB
 clear hB
 have H : ((spec_l01Next.f s0_0 s0_1 s0_2 (l1.length : Int)).bind fun bt235 => (if 0 ≤ bt235.1 then (if bt235.1 < (l1.length : Int) then (some (rd l1 bt235.1, bt235.2.1, bt235.2.2)) else (none)) else (none))) = some (r1, r2, r3) := h
 clear h
 replace H := jD.mp H
 obtain ⟨⟨t235, t236, t237⟩, A30, H⟩ := H
 replace H : (if 0 ≤ t235 then (if t235 < (l1.length : Int) then (some (rd l1 t235, t236, t237)) else (none)) else (none)) = some (r1, r2, r3) := H
 have A3 := jA A30
 clear A30
 by_cases c4 : 0 ≤ t235
 ·rw [if_pos c4] at H
  have c4b0 : decide (0 ≤ t235) = true := jP c4
  clear c4
  by_cases c5 : t235 < (l1.length : Int)
  ·rw [if_pos c5] at H
   have c5b0 : decide (t235 < (l1.length : Int)) = true := jP c5
   clear c5
   simp only [je, jg] at H
   obtain ⟨rfl, rfl, rfl⟩ := H
   go_enter Try.func65, Try.ntmps65
   go_wp2_with (first | ((with_reducible refine jN (f := 66) rfl ?_); refine goesL_ (some 9) rfl rfl Try.func66 zr rfl #[.pointer (some ⟨g, 0, none⟩), .int .i64 (l1.length : Int)] rfl zm ?_; (with_reducible refine (spec_l01Next.calls g s0_0 s0_1 s0_2 (l1.length : Int) t235 t236 t237 w0 _ ?side1 ?side2 A3.out).mono ?_); (case side1 => repeat (first | (with_reducible first | exact HI0.out | apply IsS91.alloc | apply IsS91.drewN | apply IsS91.drew | apply IsS91.set_1 | apply IsS91.set_2) | exact HI0.out)); (case side2 => repeat (first | (with_reducible first | exact HB.out | apply jM | apply jE | apply jI | refine jL ?_ (IsS91.ge HI0.out)) | exact HB.out)); rintro e w6 ⟨rfl, hi, hb, hk⟩; refine ⟨_, rfl, ?_⟩; have n0_ := jA (KeepBut.trans (zh0 HK) hk (.inl rfl)); have n1_ := jA (hb); have n2_ := jA (hi); clear HK; clear HB; clear HI0; have HK := n0_; have HB := n1_; have HI0 := n2_; clear n0_ n1_ n2_; (try clear hb); (try clear hb2); (try clear hk); (try clear hi); have p238 : 0 ≤ (t235 : Int) := jB za; have q238 : t235 < (l1.length : Int) := jB za; obtain ⟨ad238, e238, hx238_0⟩ := jh HR1.out t235 p238 q238; cases e238; replace hx238_0 := keep_cell HK.out hx238_0 (by first | (rw [add_block]; exact hf1 _ rfl (by omega)) | exact hf1 _ rfl (by omega) | exact hf1 ad238 rfl (by omega)); replace p238 := eq_true p238; replace q238 := eq_true q238))
   go_ret
   exact ⟨by first | rfl | (simp [errW_none, errW_some] <;> rfl) | (simp [*, errW_none, errW_some] <;> rfl), by repeat (first | (with_reducible first | exact HI0.out | apply IsS91.alloc | apply IsS91.drewN | apply IsS91.drew | apply IsS91.set_1 | apply IsS91.set_2) | exact HI0.out), by repeat (first | (with_reducible first | exact HB.out | apply jM | apply jE | apply jI | refine jL ?_ (IsS91.ge HI0.out)) | exact HB.out), zh0 HK⟩
  ·rw [if_neg c5] at H
   exact absurd H (by simp)
 ·rw [if_neg c4] at H
  exact absurd H (by simp)

/-! ### spec_l12Good: function 84 -/
def spec_l12Good.l0 : Nat → List (S63) → Int → List Int → Int → Int → Option ((List (S63)) × Int × Int)
 | 0, _, _, _, _, _ => none
 | k + 1, x3, x4, x1000, x1001, x1002 => if x4 > 0 then ((spec_l01Next.f x1000 x1001 x1002 (x3.length : Int)).bind fun bt248 => ((spec_l01Next.f x1000 bt248.2.1 bt248.2.2 6).bind fun bt251 => (if x3.length < 8796093022208 then (spec_l12Good.l0 k (x3 ++ [(⟨bt248.1, bt251.1⟩ : S63)]) (wrap64 (x4 - 1)) x1000 bt251.2.1 bt251.2.2) else (none)))) else (some (x3, x1001, x1002))
def spec_l12Good.f (k : Nat) (s0_0 : List Int) (s0_1 : Int) (s0_2 : Int) : Option ((List (S63)) × Int × Int) := (spec_l01Next.f s0_0 s0_1 s0_2 5).bind fun bt239 => ((spec_l01Next.f s0_0 bt239.2.1 bt239.2.2 8).bind fun bt245 => (spec_l12Good.l0 k (([(⟨(-1), bt239.1⟩ : S63)] : List (S63))) bt245.1 s0_0 bt245.2.1 bt245.2.2))
theorem spec_l12Good.mono_l : ∀ k, (∀ y0 y1 y2 y3 y4, LeO (spec_l12Good.l0 k y0 y1 y2 y3 y4) (spec_l12Good.l0 (k + 1) y0 y1 y2 y3 y4))
 | 0 => fun _ _ _ _ _ r h => by simp [spec_l12Good.l0] at h
 | k + 1 => by
  have ih0 := spec_l12Good.mono_l k
  ·intro y0 y1 y2 y3 y4
   unfold spec_l12Good.l0
   repeat' first
   | (with_reducible exact ih0 _ _ _ _ _)
   | (with_reducible exact LeO.refl _)
   | (with_reducible exact LeO.none _)
   | (with_reducible refine LeO.ite ?_ ?_)
   | (with_reducible refine LeO.bind ?_ (fun _ => ?_))
   | exact ih0 _ _ _ _ _
   | exact LeO.none _
   | refine LeO.ite ?_ ?_
   | refine LeO.bind ?_ (fun _ => ?_)
theorem spec_l12Good.mono : ∀ a0 a1 a2 k, LeO (spec_l12Good.f k a0 a1 a2) (spec_l12Good.f (k + 1) a0 a1 a2) := by
 intro a0 a1 a2 k
 have ih0 := spec_l12Good.mono_l k
 unfold spec_l12Good.f
 repeat' first
   | (with_reducible exact ih0 _ _ _ _ _)
   | (with_reducible exact LeO.refl _)
   | (with_reducible exact LeO.none _)
   | (with_reducible refine LeO.ite ?_ ?_)
   | (with_reducible refine LeO.bind ?_ (fun _ => ?_))
   | exact ih0 _ _ _ _ _
   | exact LeO.none _
   | refine LeO.ite ?_ ?_
   | refine LeO.bind ?_ (fun _ => ?_)
set_option maxHeartbeats 8000000 in
set_option maxRecDepth 100000 in
theorem spec_l12Good.calls (k : Nat) (g : Nat) (s0_0 : List Int) (s0_1 : Int) (s0_2 : Int) (r1 : List (S63)) (r2 : Int) (r3 : Int) (w0 w : World) (hI : IsS91 w0 w g s0_0 s0_1 s0_2) (hB : Below w0.heap.size w0 w) (h : spec_l12Good.f k s0_0 s0_1 s0_2 = some (r1, r2, r3)) :
  Calls Try.prog 84 #[.pointer (some ⟨g, 0, none⟩)] w fun e w' => ∃ v0_ : Value, e = .returned (v0_) ∧ Kd.R k63 63 w' w.heap.size (fun _ => True) v0_ r1 ∧ IsS91 w0 w' g s0_0 r2 r3 ∧ Below w0.heap.size w0 w' ∧ KeepBut w w' g none := by
 have hu63 := Try.underlying63
 have HI0 := jA hI
 have HK := jA (KeepBut.refl w g none)
 have HL := jA hB.size
 clear hI
 have HW0 := jA hB.size
 have HB := jA hB
 clear hB
 have H : ((spec_l01Next.f s0_0 s0_1 s0_2 5).bind fun bt239 => ((spec_l01Next.f s0_0 bt239.2.1 bt239.2.2 8).bind fun bt245 => (spec_l12Good.l0 k (([(⟨(-1), bt239.1⟩ : S63)] : List (S63))) bt245.1 s0_0 bt245.2.1 bt245.2.2))) = some (r1, r2, r3) := h
 clear h
 replace H := jD.mp H
 obtain ⟨⟨t239, t240, t241⟩, A20, H⟩ := H
 replace H : ((spec_l01Next.f s0_0 t240 t241 8).bind fun bt245 => (spec_l12Good.l0 k (([(⟨(-1), t239⟩ : S63)] : List (S63))) bt245.1 s0_0 bt245.2.1 bt245.2.2)) = some (r1, r2, r3) := H
 have A2 := jA A20
 clear A20
 obtain ⟨y242, hy242⟩ : ∃ y_ : List (S63), y_ = (([(⟨(-1), t239⟩ : S63)] : List (S63))) := ⟨_, rfl⟩
 replace H : ((spec_l01Next.f s0_0 t240 t241 8).bind fun bt245 => (spec_l12Good.l0 k y242 bt245.1 s0_0 bt245.2.1 bt245.2.2)) = some (r1, r2, r3) := by first | (rw [hy242]; with_reducible exact H) | (have H2_ := (Option.bind_some _ _).symm.trans H; rw [hy242]; with_reducible exact H2_) | (have H2_ := (Option.bind_some _ _).symm.trans H; with_reducible exact H2_) | with_reducible exact H | (rw [hy242]; exact H) | exact H
 have Ny242 := jA hy242
 clear hy242
 replace H := jD.mp H
 obtain ⟨⟨t245, t246, t247⟩, A30, H⟩ := H
 replace H : (spec_l12Good.l0 k y242 t245 s0_0 t246 t247) = some (r1, r2, r3) := H
 have A3 := jA A30
 clear A30
 have H' := jA H
 clear H
 go_enter Try.func84, Try.ntmps84
 go_wp2_with (first | ((with_reducible refine jN (f := 66) rfl ?_); refine goesL_ (some 6) rfl rfl Try.func66 zr rfl #[.pointer (some ⟨g, 0, none⟩), .int .i64 5] rfl zm ?_; (with_reducible refine (spec_l01Next.calls g s0_0 s0_1 s0_2 5 t239 t240 t241 w0 _ ?side1 ?side2 A2.out).mono ?_); (case side1 => repeat (first | (with_reducible first | exact HI0.out | apply IsS91.alloc | apply IsS91.drewN | apply IsS91.drew | apply IsS91.set_1 | apply IsS91.set_2) | exact HI0.out)); (case side2 => repeat (first | (with_reducible first | exact HB.out | apply jM | apply jE | apply jI | refine jL ?_ (IsS91.ge HI0.out)) | exact HB.out)); rintro e w4 ⟨rfl, hi, hb, hk⟩; refine ⟨_, rfl, ?_⟩; have n0_ := jA (KeepBut.trans (zh0 HK) hk (.inl rfl)); have n1_ := jA (hb); have n2_ := jA (hi); clear HK; clear HB; clear HI0; have HK := n0_; have HB := n1_; have HI0 := n2_; clear n0_ n1_ n2_; (try clear hb); (try clear hb2); (try clear hk); (try clear hi)) | ((with_reducible refine gate_dst (N := 8) rfl ?_); refine Kd.R_lit k63 _ 63 ?hg (N := 8) ?hd (xs := ([(⟨(-1), t239⟩ : S63)] : List (S63))) (inner := [.int .i64 (-1), .int .i64 t239]) (ok := fun _ => True) (okp := fun _ => True) ?hr ?hp (fun _ hk => hk) trivial (Below.refl _ _) (Nat.le_refl _) (by simp) ?_; (case hd => rfl); (case hg => rfl); (case hr => first | (go_simp; done) | (go_simp; rfl)); (case hp => exact (Reps.c2 (show Kd.M k63 _ _ _ (⟨(-1), t239⟩ : S63) [.int .i64 (-1), .int .i64 t239] from (k63_mkM _ _ _ (⟨(-1), t239⟩ : S63) )) (Reps.none _ _))); intro v243 w5 ho6 hb hg_ hnew_; clear hg_ hnew_; (first | rw [← Ny242.out] at ho6 | (simp only [Int.reduceToNat] at ho6; rw [← Ny242.out] at ho6)); have n0_ := jA (jf ho6 (keep_size (w := w) (g := g) (row := none) (zh0 HK))); have n1_ := jA (IsS91.below (by repeat (first | (with_reducible first | exact HI0.out | apply IsS91.alloc | apply IsS91.drewN | apply IsS91.drew | apply IsS91.set_1 | apply IsS91.set_2) | exact HI0.out)) hb); have n2_ := jA (KeepBut.trans (zh0 HK) (KeepBut.of_below hb g none) (.inl rfl)); have n3_ := jA (jV (by repeat (first | (with_reducible first | exact HB.out | apply jM | apply jE | apply jI | refine jL ?_ (IsS91.ge HI0.out)) | exact HB.out)) hb); clear HI0; clear HK; clear HB; have HO244 := n0_; have HI0 := n1_; have HK := n2_; have HB := n3_; clear n0_ n1_ n2_ n3_; clear hb ho6) | ((with_reducible refine jN (f := 66) rfl ?_); refine goesL_ (some 10) rfl rfl Try.func66 zr rfl #[.pointer (some ⟨g, 0, none⟩), .int .i64 8] rfl zm ?_; (with_reducible refine (spec_l01Next.calls g s0_0 t240 t241 8 t245 t246 t247 w0 _ ?side1 ?side2 A3.out).mono ?_); (case side1 => repeat (first | (with_reducible first | exact HI0.out | apply IsS91.alloc | apply IsS91.drewN | apply IsS91.drew | apply IsS91.set_1 | apply IsS91.set_2) | exact HI0.out)); (case side2 => repeat (first | (with_reducible first | exact HB.out | apply jM | apply jE | apply jI | refine jL ?_ (IsS91.ge HI0.out)) | exact HB.out)); rintro e w7 ⟨rfl, hi, hb, hk⟩; refine ⟨_, rfl, ?_⟩; have n0_ := jA (Kd.R_mono (Kd.R_keep (IsS91.apart (show IsS91 w0 _ g s0_0 t240 t241 from by repeat (first | (with_reducible first | exact HI0.out | apply IsS91.alloc | apply IsS91.drewN | apply IsS91.drew | apply IsS91.set_1 | apply IsS91.set_2) | exact HI0.out)) (zo HO244) (by decide)) hk (fun _ h => h.2)) (fun _ h => h.1)); have n1_ := jA (KeepBut.trans (zh0 HK) hk (.inl rfl)); have n2_ := jA (hb); have n3_ := jA (hi); clear HO244; clear HK; clear HB; clear HI0; have HO244 := n0_; have HK := n1_; have HB := n2_; have HI0 := n3_; clear n0_ n1_ n2_ n3_; (try clear hb); (try clear hb2); (try clear hk); (try clear hi)))
 go_loopg [3, 4] k (fun kq v3 v4 w' => ∃ (x3_1 : List (S63)) (x4_1 : Int) (x1001_1 : Int) (x1002_1 : Int), v4 = .int .i64 x4_1 ∧ Aside0 (spec_l12Good.l0 kq x3_1 x4_1 s0_0 x1001_1 x1002_1 = some (r1, r2, r3)) ∧ Aside0 (kq ≤ k) ∧ Aside0 (Kd.R k63 63 w' w.heap.size (fun _ => True) v3 x3_1) ∧ Aside0 (IsS91 w0 w' g s0_0 x1001_1 x1002_1) ∧ Aside0 (KeepBut w w' g none) ∧ Aside0 (Below w0.heap.size w0 w'))
 case atStart => exact ⟨(y242), (t245), (t246), (t247), zz, H', ⟨Nat.le_refl _⟩, ⟨by (with_reducible repeat (first | apply jH | apply jG | apply jK)); exact HO244.out⟩, ⟨by repeat (first | (with_reducible first | exact HI0.out | apply IsS91.alloc | apply IsS91.drewN | apply IsS91.drew | apply IsS91.set_1 | apply IsS91.set_2) | exact HI0.out)⟩, ⟨zh0 HK⟩, ⟨by repeat (first | (with_reducible first | exact HB.out | apply jM | apply jE | apply jI | refine jL ?_ (IsS91.ge HI0.out)) | exact HB.out)⟩⟩
 case round =>
  clear H'
  try clear c2
  try clear p2
  try clear c6
  obtain ⟨x3_1, x4_1, x1001_1, x1002_1, rfl, HA, HK1, HO_3, HI0, HK, HB⟩ := hrel
  cases gk with
  | zero => exact absurd HA.out (by simp [spec_l12Good.l0])
  | succ k1 =>
   have H := HA.out
   clear HA
   simp only [spec_l12Good.l0] at H
   by_cases c8 : x4_1 > 0
   ·rw [if_pos c8] at H
    have c8b0 : decide (0 < x4_1) = true := jP c8
    clear c8
    replace H := jD.mp H
    obtain ⟨⟨t248, t249, t250⟩, A90, H⟩ := H
    replace H : ((spec_l01Next.f s0_0 t249 t250 6).bind fun bt251 => (if x3_1.length < 8796093022208 then (spec_l12Good.l0 k1 (x3_1 ++ [(⟨t248, bt251.1⟩ : S63)]) (wrap64 (x4_1 - 1)) s0_0 bt251.2.1 bt251.2.2) else (none))) = some (r1, r2, r3) := H
    have A9 := jA A90
    clear A90
    replace H := jD.mp H
    obtain ⟨⟨t251, t252, t253⟩, A100, H⟩ := H
    replace H : (if x3_1.length < 8796093022208 then (spec_l12Good.l0 k1 (x3_1 ++ [(⟨t248, t251⟩ : S63)]) (wrap64 (x4_1 - 1)) s0_0 t252 t253) else (none)) = some (r1, r2, r3) := H
    have A10 := jA A100
    clear A100
    by_cases c11 : x3_1.length < 8796093022208
    ·rw [if_pos c11] at H
     have LMc11 := jA c11
     clear c11
     obtain ⟨y254, hy254⟩ : ∃ y_ : List (S63), y_ = (x3_1 ++ [(⟨t248, t251⟩ : S63)]) := ⟨_, rfl⟩
     replace H : (spec_l12Good.l0 k1 y254 (wrap64 (x4_1 - 1)) s0_0 t252 t253) = some (r1, r2, r3) := by first | (rw [hy254]; with_reducible exact H) | (have H2_ := (Option.bind_some _ _).symm.trans H; rw [hy254]; with_reducible exact H2_) | (have H2_ := (Option.bind_some _ _).symm.trans H; with_reducible exact H2_) | with_reducible exact H | (rw [hy254]; exact H) | exact H
     have Ny254 := jA hy254
     clear hy254
     have H' := jA H
     clear H
     obtain ⟨Ao12, co12, eo12⟩ := Kd.R_slice HO_3.out
     subst eo12
     go_wp2_with (first | ((with_reducible refine jN (f := 66) rfl ?_); refine goesL_ (some 19) rfl rfl Try.func66 zr rfl #[.pointer (some ⟨g, 0, none⟩), .int .i64 (x3_1.length : Int)] rfl zm ?_; (with_reducible refine (spec_l01Next.calls g s0_0 x1001_1 x1002_1 (x3_1.length : Int) t248 t249 t250 w0 _ ?side1 ?side2 A9.out).mono ?_); (case side1 => repeat (first | (with_reducible first | exact HI0.out | apply IsS91.alloc | apply IsS91.drewN | apply IsS91.drew | apply IsS91.set_1 | apply IsS91.set_2) | exact HI0.out)); (case side2 => repeat (first | (with_reducible first | exact HB.out | apply jM | apply jE | apply jI | refine jL ?_ (IsS91.ge HI0.out)) | exact HB.out)); rintro e w13 ⟨rfl, hi, hb, hk⟩; refine ⟨_, rfl, ?_⟩; have n0_ := jA (Kd.R_mono (Kd.R_keep (IsS91.apart (show IsS91 w0 _ g s0_0 x1001_1 x1002_1 from by repeat (first | (with_reducible first | exact HI0.out | apply IsS91.alloc | apply IsS91.drewN | apply IsS91.drew | apply IsS91.set_1 | apply IsS91.set_2) | exact HI0.out)) (zo HO_3) (by decide)) hk (fun _ h => h.2)) (fun _ h => h.1)); have n1_ := jA (KeepBut.trans (zh0 HK) hk (.inl rfl)); have n2_ := jA (hb); have n3_ := jA (hi); clear HO_3; clear HK; clear HB; clear HI0; have HO_3 := n0_; have HK := n1_; have HB := n2_; have HI0 := n3_; clear n0_ n1_ n2_ n3_; (try clear hb); (try clear hb2); (try clear hk); (try clear hi)) | ((with_reducible refine jN (f := 66) rfl ?_); refine goesL_ (some 21) rfl rfl Try.func66 zr rfl #[.pointer (some ⟨g, 0, none⟩), .int .i64 6] rfl zm ?_; (with_reducible refine (spec_l01Next.calls g s0_0 t249 t250 6 t251 t252 t253 w0 _ ?side1 ?side2 A10.out).mono ?_); (case side1 => repeat (first | (with_reducible first | exact HI0.out | apply IsS91.alloc | apply IsS91.drewN | apply IsS91.drew | apply IsS91.set_1 | apply IsS91.set_2) | exact HI0.out)); (case side2 => repeat (first | (with_reducible first | exact HB.out | apply jM | apply jE | apply jI | refine jL ?_ (IsS91.ge HI0.out)) | exact HB.out)); rintro e w14 ⟨rfl, hi, hb, hk⟩; refine ⟨_, rfl, ?_⟩; have n0_ := jA (Kd.R_mono (Kd.R_keep (IsS91.apart (show IsS91 w0 _ g s0_0 t249 t250 from by repeat (first | (with_reducible first | exact HI0.out | apply IsS91.alloc | apply IsS91.drewN | apply IsS91.drew | apply IsS91.set_1 | apply IsS91.set_2) | exact HI0.out)) (zo HO_3) (by decide)) hk (fun _ h => h.2)) (fun _ h => h.1)); have n1_ := jA (KeepBut.trans (zh0 HK) hk (.inl rfl)); have n2_ := jA (hb); have n3_ := jA (hi); clear HO_3; clear HK; clear HB; clear HI0; have HO_3 := n0_; have HK := n1_; have HB := n2_; have HI0 := n3_; clear n0_ n1_ n2_ n3_; (try clear hb); (try clear hb2); (try clear hk); (try clear hi)) | ((with_reducible refine gate_builtin (b := .append) (xs := #[.tmp 15, .tmp 23]) rfl ?_); at_builtin; refine Kd.R_append k63 w.heap.size rfl (.tmp 15) (.tmp 23) 26 63 (.agg #[(.int .i64 0), (.int .i64 0)]) 16 rfl Try.underlying26 info63 rfl (by decide) (by omega) (.slice Ao12 x3_1.length co12) x3_1 (⟨t248, t251⟩ : S63) [.int .i64 t248, .int .i64 t251] (fun _ => True) (fun _ => False) rfl rfl ?aP (fun _ hk => hk.elim) ?aF ?aO (Below.refl _ _) ?aS ?aL ?_; (case aP => exact k63_mkM _ _ _ (⟨t248, t251⟩ : S63)); (case aF => exact (fun _ _ => trivial)); (case aO => exact (zo HO_3)); (case aS => exact (keep_size (w := w) (g := g) (row := none) (zh0 HK))); (case aL => have := LMc11.out; omega); intro v255 w15 ho hb hg hat; rw [← Ny254.out] at ho; have n0_ := jA (IsS91.grown (by repeat (first | (with_reducible first | exact HI0.out | apply IsS91.alloc | apply IsS91.drewN | apply IsS91.drew | apply IsS91.set_1 | apply IsS91.set_2) | exact HI0.out)) hg (IsS91.own_ne HI0.out HO_3.out (by decide))); have n1_ := jA (below_weaken (by repeat (first | (with_reducible first | exact HB.out | apply jM | apply jE | apply jI | refine jL ?_ (IsS91.ge HI0.out)) | exact HB.out)) HL.out hb); have n2_ := jA (KeepBut.trans (zh0 HK) (KeepBut.of_grown hg g) (Kd.R_base2 HO_3.out)); have n3_ := jA (ho); clear HI0; clear HB; clear HK; clear HO_3; have HI0 := n0_; have HB := n1_; have HK := n2_; have HO256 := n3_; clear n0_ n1_ n2_ n3_; clear ho hb hg hat))
     go_roundg k1
     case measure => have := HK1.out; omega
     case rel => exact ⟨(y254), (wrap64 (x4_1 - 1)), (t252), (t253), zz, H', ⟨by have := HK1.out; omega⟩, ⟨by (with_reducible repeat (first | apply jH | apply jG | apply jK)); exact HO256.out⟩, ⟨by repeat (first | (with_reducible first | exact HI0.out | apply IsS91.alloc | apply IsS91.drewN | apply IsS91.drew | apply IsS91.set_1 | apply IsS91.set_2) | exact HI0.out)⟩, ⟨zh0 HK⟩, ⟨by repeat (first | (with_reducible first | exact HB.out | apply jM | apply jE | apply jI | refine jL ?_ (IsS91.ge HI0.out)) | exact HB.out)⟩⟩
    ·rw [if_neg c11] at H
     exact absurd H (by simp)
   ·rw [if_neg c8] at H
    have c8b0 : decide (0 < x4_1) = false := ja c8
    clear c8
    simp only [je, jg] at H
    obtain ⟨rfl, rfl, rfl⟩ := H
    go_wp2
    go_ret
    exact ⟨_, by first | rfl | (simp [errW_none, errW_some] <;> rfl) | (simp [*, errW_none, errW_some] <;> rfl), by (with_reducible repeat (first | apply jH | apply jG | apply jK)); exact HO_3.out, by repeat (first | (with_reducible first | exact HI0.out | apply IsS91.alloc | apply IsS91.drewN | apply IsS91.drew | apply IsS91.set_1 | apply IsS91.set_2) | exact HI0.out), by repeat (first | (with_reducible first | exact HB.out | apply jM | apply jE | apply jI | refine jL ?_ (IsS91.ge HI0.out)) | exact HB.out), zh0 HK⟩

end Go.Proofs.Ytddejaomlnldiaa.PFnStops
