/- Functions and contracts that FnStops reaches (13 of 14). -/
import Derived.Test.YtddejaomlnldiaaQFnStopsx11
namespace Go.Proofs.Ytddejaomlnldiaa.PFnStops
open Go.RowKit Go.Proofs.YtddejaomlnldiaaW.PrintWords Go.Proofs.YtddejaomlnldiaaW.PrintLast Go.Proofs.YtddejaomlnldiaaW.PrintMore
attribute [local go_sem] max2_int min2_int max_two min_two max_three min_three max_four min_four   -- for this text's walks alone
set_option linter.unusedVariables false
set_option linter.unusedSimpArgs false

/-! ### impl_copyList: function 79 -/
def impl_copyList.f (l0 : List Int) : Option (List Int) := (some (([] : List Int) : List Int)).bind fun y460 => (if y460.length + l0.length < 17592186044416 then (some (y460 ++ l0)) else (none))
set_option maxHeartbeats 8000000 in
set_option maxRecDepth 100000 in
theorem impl_copyList.calls (A0 : Option Addr) (c0 : Nat) (l0 : List Int) (r : List Int) (w : World) (hr0 : Kd.C (Kd.int .i64) w A0 l0.length l0) (hc0 : l0.length ≤ c0) (h : impl_copyList.f l0 = some r) :
  Calls Try.prog 79 #[.slice A0 l0.length c0] w fun e w' => ∃ v0_ : Value, e = .returned (v0_) ∧ Kd.R (Kd.int .i64) 2 w' w.heap.size (fun _ => True) v0_ r ∧ Below w.heap.size w w' := by
 have HR0 := jA hr0
 have HC0 := jA hc0
 clear hr0 hc0
 have HB := jA (Below.refl w.heap.size w)
 have H : ((some (([] : List Int) : List Int)).bind fun y460 => (if y460.length + l0.length < 17592186044416 then (some (y460 ++ l0)) else (none))) = some r := h
 clear h
 obtain ⟨y460, hy460⟩ : ∃ y_ : List Int, y_ = (([] : List Int)) := ⟨_, rfl⟩
 replace H : (if y460.length + l0.length < 17592186044416 then (some (y460 ++ l0)) else (none)) = some r := by first | (rw [hy460]; with_reducible exact H) | (have H2_ := (Option.bind_some _ _).symm.trans H; rw [hy460]; with_reducible exact H2_) | (have H2_ := (Option.bind_some _ _).symm.trans H; with_reducible exact H2_) | with_reducible exact H | (rw [hy460]; exact H) | exact H
 have Ny460 := jA hy460
 clear hy460
 by_cases c2 : y460.length + l0.length < 17592186044416
 ·rw [if_pos c2] at H
  have LMc2 := jA c2
  clear c2
  obtain ⟨y463, hy463⟩ : ∃ y_ : List Int, y_ = (y460 ++ l0) := ⟨_, rfl⟩
  replace H : (some y463) = some r := by first | (rw [hy463]; with_reducible exact H) | (have H2_ := (Option.bind_some _ _).symm.trans H; rw [hy463]; with_reducible exact H2_) | (have H2_ := (Option.bind_some _ _).symm.trans H; with_reducible exact H2_) | with_reducible exact H | (rw [hy463]; exact H) | exact H
  have Ny463 := jA hy463
  clear hy463
  obtain rfl := jW H
  go_enter Try.func79, Try.ntmps79
  go_wp2_with (first | ((with_reducible refine gate_dst (N := 3) rfl ?_); refine Kd.R_lit (Kd.int .i64) _ 2 ?hg (N := 3) ?hd (xs := ([] : List Int)) (inner := []) (ok := fun _ => True) (okp := fun _ => True) ?hr ?hp (fun _ hk => hk) trivial (Below.refl _ _) (Nat.le_refl _) (by simp) ?_; (case hd => rfl); (case hg => rfl); (case hr => first | (go_simp; done) | (go_simp; rfl)); (case hp => exact (Reps.none _ _)); intro v461 w3 ho4 hb hg_ hnew_; clear hg_ hnew_; (first | rw [← Ny460.out] at ho4 | (simp only [Int.reduceToNat] at ho4; rw [← Ny460.out] at ho4)); have n0_ := jA (jf ho4 (jY (zb0 HB))); have n1_ := jA (jV (zb0 HB) hb); clear HB; have HO462 := n0_; have HB := n1_; clear n0_ n1_; clear hb ho4) | ((with_reducible refine gate_builtin (b := .append) (xs := #[.tmp 3, .tmp 4]) rfl ?_); at_builtin; refine Kd.R_append_rows (Kd.int .i64) (w0 := w) w.heap.size rfl (.tmp 3) (.tmp 4) 32 2 (.int .i64 0) 8 rfl Try.underlying32 info2 rfl (by decide) (by omega) v461 y460 l0 _ _ _ (fun _ => True) (fun _ => False) rfl rfl ?aO ?aR (fun _ _ h => h) (fun _ h => h.elim) ?aF ?aB ?aS ?aL ?_; (case aR => repeat (first | exact HR0.out | exact (Kd.C_below HR0.out HB.out) | (with_reducible refine jR ?_ _) | (with_reducible refine jQ ?_ _) | (with_reducible refine jS ?_))); (case aB => exact (zb0 HB)); (case aF => exact (fun _ _ => trivial)); (case aO => exact (zo HO462)); (case aS => exact (jY (zb0 HB))); (case aL => have := LMc2.out; omega); intro v464 w5 ho hb hg hat; rw [← Ny463.out] at ho; have n0_ := jA (hb); have n1_ := jA (ho); clear HB; clear HO462; have HB := n0_; have HO465 := n1_; clear n0_ n1_; clear ho hb hg hat))
  go_ret
  exact ⟨_, by first | rfl | (simp [errW_none, errW_some] <;> rfl) | (simp [*, errW_none, errW_some] <;> rfl), by (with_reducible repeat (first | apply jH | apply jG | apply jK)); exact HO465.out, zb0 HB⟩
 ·rw [if_neg c2] at H
  exact absurd H (by simp)

/-! ### impl_WithoutLateCues: function 47 -/
def impl_WithoutLateCues.l0 : Nat → List (S63) → Int → Int → List Int → List Int → List (S59) → Int → Int → Option (List Int × Int)
 | 0, _, _, _, _, _, _, _, _ => none
 | k + 1, x0, x3, x4, x5, x15, x30, x31, x32 => if x32 < x31 then (if 0 ≤ x32 then (if x32 < (x30.length : Int) then ((impl_isLate.f k x0 ((rd_T59 x30 x32).f0) ((rd_T59 x30 x32).f1) ((rd_T59 x30 x32).f2) x3 x4 x5).bind fun t472 => (if t472 = true then (if 0 ≤ ((rd_T59 x30 x32).f0) then (if ((rd_T59 x30 x32).f0) < (x15.length : Int) then (impl_WithoutLateCues.l0 k x0 x3 x4 x5 (x15.set (((rd_T59 x30 x32).f0) : Int).toNat (-1)) x30 x31 (wrap64 (x32 + 1))) else (none)) else (none)) else ((impl_isStopped.f k x0 ((rd_T59 x30 x32).f0) ((rd_T59 x30 x32).f1) ((rd_T59 x30 x32).f2) x3 x4 x5).bind fun t474 => (if t474 = true then (if 0 ≤ ((rd_T59 x30 x32).f0) then (if ((rd_T59 x30 x32).f0) < (x15.length : Int) then (impl_WithoutLateCues.l0 k x0 x3 x4 x5 (x15.set (((rd_T59 x30 x32).f0) : Int).toNat (-1)) x30 x31 (wrap64 (x32 + 1))) else (none)) else (none)) else (impl_WithoutLateCues.l0 k x0 x3 x4 x5 x15 x30 x31 (wrap64 (x32 + 1))))))) else (none)) else (none)) else (some (x15, 0))
def impl_WithoutLateCues.f (k : Nat) (l0 : List (S63)) (a1 : Int) (l2 : List (S59)) (a3 : Int) (a4 : Int) (l5 : List Int) : Option (List Int × Int) := (impl_stopsAsked.f k l0 a1 l2 a3 a4 l5).bind fun t466 => (if t466 = 0 then ((impl_copyList.f l5).bind fun t467 => (impl_WithoutLateCues.l0 k l0 a3 a4 l5 t467 l2 (l2.length : Int) 0)) else (some (([] : List Int), t466)))
theorem impl_WithoutLateCues.mono_l : ∀ k, (∀ y0 y1 y2 y3 y4 y5 y6 y7, LeO (impl_WithoutLateCues.l0 k y0 y1 y2 y3 y4 y5 y6 y7) (impl_WithoutLateCues.l0 (k + 1) y0 y1 y2 y3 y4 y5 y6 y7))
 | 0 => fun _ _ _ _ _ _ _ _ r h => by simp [impl_WithoutLateCues.l0] at h
 | k + 1 => by
  have ih0 := impl_WithoutLateCues.mono_l k
  ·intro y0 y1 y2 y3 y4 y5 y6 y7
   unfold impl_WithoutLateCues.l0
   repeat' first
   | (with_reducible exact ih0 _ _ _ _ _ _ _ _)
   | (with_reducible exact impl_isLate.mono _ _ _ _ _ _ _ _)
   | (with_reducible exact impl_isStopped.mono _ _ _ _ _ _ _ _)
   | (with_reducible exact impl_stopsAsked.mono _ _ _ _ _ _ _)
   | (with_reducible exact LeO.refl _)
   | (with_reducible exact LeO.none _)
   | (with_reducible refine LeO.ite ?_ ?_)
   | (with_reducible refine LeO.bind ?_ (fun _ => ?_))
   | exact ih0 _ _ _ _ _ _ _ _
   | exact impl_isLate.mono _ _ _ _ _ _ _ _
   | exact impl_isStopped.mono _ _ _ _ _ _ _ _
   | exact impl_stopsAsked.mono _ _ _ _ _ _ _
   | exact LeO.none _
   | refine LeO.ite ?_ ?_
   | refine LeO.bind ?_ (fun _ => ?_)
theorem impl_WithoutLateCues.mono : ∀ a0 a1 a2 a3 a4 a5 k, LeO (impl_WithoutLateCues.f k a0 a1 a2 a3 a4 a5) (impl_WithoutLateCues.f (k + 1) a0 a1 a2 a3 a4 a5) := by
 intro a0 a1 a2 a3 a4 a5 k
 have ih0 := impl_WithoutLateCues.mono_l k
 unfold impl_WithoutLateCues.f
 repeat' first
   | (with_reducible exact ih0 _ _ _ _ _ _ _ _)
   | (with_reducible exact impl_isLate.mono _ _ _ _ _ _ _ _)
   | (with_reducible exact impl_isStopped.mono _ _ _ _ _ _ _ _)
   | (with_reducible exact impl_stopsAsked.mono _ _ _ _ _ _ _)
   | (with_reducible exact LeO.refl _)
   | (with_reducible exact LeO.none _)
   | (with_reducible refine LeO.ite ?_ ?_)
   | (with_reducible refine LeO.bind ?_ (fun _ => ?_))
   | exact ih0 _ _ _ _ _ _ _ _
   | exact impl_isLate.mono _ _ _ _ _ _ _ _
   | exact impl_isStopped.mono _ _ _ _ _ _ _ _
   | exact impl_stopsAsked.mono _ _ _ _ _ _ _
   | exact LeO.none _
   | refine LeO.ite ?_ ?_
   | refine LeO.bind ?_ (fun _ => ?_)
set_option maxHeartbeats 8000000 in
set_option maxRecDepth 100000 in
theorem impl_WithoutLateCues.calls (k : Nat) (A0 : Option Addr) (c0 : Nat) (l0 : List (S63)) (a1 : Int) (A2 : Option Addr) (c2 : Nat) (l2 : List (S59)) (a3 : Int) (a4 : Int) (A5 : Option Addr) (c5 : Nat) (l5 : List Int) (r1 : List Int) (r2 : Int) (w : World) (hr0 : Kd.C k63 w A0 l0.length l0) (hc0 : l0.length ≤ c0) (hr2 : Kd.C k59 w A2 l2.length l2) (hc2 : l2.length ≤ c2) (hr5 : Kd.C (Kd.int .i64) w A5 l5.length l5) (hc5 : l5.length ≤ c5) (h : impl_WithoutLateCues.f k l0 a1 l2 a3 a4 l5 = some (r1, r2)) :
  Calls Try.prog 47 #[.slice A0 l0.length c0, .int .i64 a1, .slice A2 l2.length c2, .int .i64 a3, .int .i64 a4, .slice A5 l5.length c5] w fun e w' => ∃ v0_ : Value, e = .returned (.tuple #[v0_, .int .i64 r2]) ∧ Kd.R (Kd.int .i64) 2 w' w.heap.size (fun _ => True) v0_ r1 ∧ Below w.heap.size w w' := by
 have hu59 := Try.underlying59
 have HR0 := jA hr0
 have HC0 := jA hc0
 clear hr0 hc0
 have HR2 := jA hr2
 have HC2 := jA hc2
 clear hr2 hc2
 have HR5 := jA hr5
 have HC5 := jA hc5
 clear hr5 hc5
 have HB := jA (Below.refl w.heap.size w)
 have H : ((impl_stopsAsked.f k l0 a1 l2 a3 a4 l5).bind fun t466 => (if t466 = 0 then ((impl_copyList.f l5).bind fun t467 => (impl_WithoutLateCues.l0 k l0 a3 a4 l5 t467 l2 (l2.length : Int) 0)) else (some (([] : List Int), t466)))) = some (r1, r2) := h
 clear h
 replace H := jD.mp H
 obtain ⟨t466, A70, H⟩ := H
 replace H : (if t466 = 0 then ((impl_copyList.f l5).bind fun t467 => (impl_WithoutLateCues.l0 k l0 a3 a4 l5 t467 l2 (l2.length : Int) 0)) else (some (([] : List Int), t466))) = some (r1, r2) := H
 have A7 := jA A70
 clear A70
 by_cases c8 : t466 = 0
 ·rw [if_pos c8] at H
  have c8b0 : (t466 == 0) = true := beq_iff_eq.mpr c8
  have c8b1 : (t466 != 0) = false := bne_eq_false_iff_eq.mpr c8
  clear c8
  replace H := jD.mp H
  obtain ⟨t467, A90, H⟩ := H
  replace H : (impl_WithoutLateCues.l0 k l0 a3 a4 l5 t467 l2 (l2.length : Int) 0) = some (r1, r2) := H
  have A9 := jA A90
  clear A90
  have H' := jA H
  clear H
  go_enter Try.func47, Try.ntmps47
  go_wp2_with (first | ((with_reducible refine jN (f := 74) rfl ?_); refine goesL_ (some 24) rfl rfl Try.func74 zr rfl #[.slice A0 l0.length c0, .int .i64 a1, .slice A2 l2.length c2, .int .i64 a3, .int .i64 a4, .slice A5 l5.length c5] rfl zm ?_; (with_reducible refine (impl_stopsAsked.calls k _ _ l0 a1 _ _ l2 a3 a4 _ _ l5 t466 _ ?side1 ?side2 ?side3 ?side4 ?side5 ?side6 A7.out).mono ?_); (case side1 => repeat (first | exact HR0.out | (with_reducible refine jR ?_ _) | (with_reducible refine jQ ?_ _) | (with_reducible refine jS ?_))); (case side2 => exact HC0.out); (case side3 => repeat (first | exact HR2.out | (with_reducible refine jR ?_ _) | (with_reducible refine jQ ?_ _) | (with_reducible refine jS ?_))); (case side4 => exact HC2.out); (case side5 => repeat (first | exact HR5.out | (with_reducible refine jR ?_ _) | (with_reducible refine jQ ?_ _) | (with_reducible refine jS ?_))); (case side6 => exact HC5.out); rintro e w10 ⟨rfl, hb⟩; refine ⟨_, rfl, ?_⟩; have n0_ := jA (jV (zb0 HB) hb); clear HB; have HB := n0_; clear n0_; (try clear hb); (try clear hb2); (try clear hk); (try clear hi)) | ((with_reducible refine jN (f := 79) rfl ?_); refine goesL_ (some 29) rfl rfl Try.func79 zr rfl #[.slice A5 l5.length c5] rfl zm ?_; (with_reducible refine (impl_copyList.calls _ _ l5 t467 _ ?side1 ?side2 A9.out).mono ?_); (case side1 => exact zs HR5 HB); (case side2 => exact HC5.out); rintro e w11 ⟨v468, rfl, ho0, hb⟩; refine ⟨_, rfl, ?_⟩; have n0_ := jA (jf ho0 (jY (zb0 HB))); have n1_ := jA (jV (zb0 HB) hb); clear HB; have HO469 := n0_; have HB := n1_; clear n0_ n1_; (try clear hb); (try clear hb2); (try clear hk); (try clear hi); (try clear ho0)))
  go_loopg [32] k (fun kq v32 w' => ∃ (x15_1 : List Int) (x32_1 : Int), v32 = .int .i64 x32_1 ∧ Aside0 (impl_WithoutLateCues.l0 kq l0 a3 a4 l5 x15_1 l2 (l2.length : Int) x32_1 = some (r1, r2)) ∧ Aside0 (kq ≤ k) ∧ Aside0 (Kd.R (Kd.int .i64) 2 w' w.heap.size (fun _ => True) v468 x15_1) ∧ Aside0 (Below w.heap.size w w'))
  case atStart => exact ⟨(t467), (0), zz, H', ⟨Nat.le_refl _⟩, ⟨by (with_reducible repeat (first | apply jH | apply jG | apply jK)); exact HO469.out⟩, ⟨zb0 HB⟩⟩
  case round =>
   clear H'
   try clear c2
   try clear p2
   try clear c4
   try clear c5
   try clear c7
   try clear c8
   try clear c8b0
   try clear c8b1
   obtain ⟨x15_1, x32_1, rfl, HA, HK1, HO_15, HB⟩ := hrel
   cases gk with
   | zero => exact absurd HA.out (by simp [impl_WithoutLateCues.l0])
   | succ k1 =>
    have H := HA.out
    clear HA
    simp only [impl_WithoutLateCues.l0] at H
    by_cases c12 : x32_1 < (l2.length : Int)
    ·rw [if_pos c12] at H
     have c12b0 : decide (x32_1 < (l2.length : Int)) = true := jP c12
     clear c12
     by_cases c13 : 0 ≤ x32_1
     ·rw [if_pos c13] at H
      have c13b0 : decide (0 ≤ x32_1) = true := jP c13
      clear c13
      by_cases c14 : x32_1 < (l2.length : Int)
      ·rw [if_pos c14] at H
       have c14b0 : decide (x32_1 < (l2.length : Int)) = true := jP c14
       clear c14
       replace H := jD.mp H
       obtain ⟨t472, A150, H⟩ := H
       replace H : (if t472 = true then (if 0 ≤ ((rd_T59 l2 x32_1).f0) then (if ((rd_T59 l2 x32_1).f0) < (x15_1.length : Int) then (impl_WithoutLateCues.l0 k1 l0 a3 a4 l5 (x15_1.set (((rd_T59 l2 x32_1).f0) : Int).toNat (-1)) l2 (l2.length : Int) (wrap64 (x32_1 + 1))) else (none)) else (none)) else ((impl_isStopped.f k1 l0 ((rd_T59 l2 x32_1).f0) ((rd_T59 l2 x32_1).f1) ((rd_T59 l2 x32_1).f2) a3 a4 l5).bind fun t474 => (if t474 = true then (if 0 ≤ ((rd_T59 l2 x32_1).f0) then (if ((rd_T59 l2 x32_1).f0) < (x15_1.length : Int) then (impl_WithoutLateCues.l0 k1 l0 a3 a4 l5 (x15_1.set (((rd_T59 l2 x32_1).f0) : Int).toNat (-1)) l2 (l2.length : Int) (wrap64 (x32_1 + 1))) else (none)) else (none)) else (impl_WithoutLateCues.l0 k1 l0 a3 a4 l5 x15_1 l2 (l2.length : Int) (wrap64 (x32_1 + 1)))))) = some (r1, r2) := H
       have A15 := jA A150
       clear A150
       by_cases c16 : t472 = true
       ·subst c16
        have H1 : (if 0 ≤ ((rd_T59 l2 x32_1).f0) then (if ((rd_T59 l2 x32_1).f0) < (x15_1.length : Int) then (impl_WithoutLateCues.l0 k1 l0 a3 a4 l5 (x15_1.set (((rd_T59 l2 x32_1).f0) : Int).toNat (-1)) l2 (l2.length : Int) (wrap64 (x32_1 + 1))) else (none)) else (none)) = some (r1, r2) := by rw [if_pos rfl] at H; exact H
        clear H
        have H := H1
        clear H1
        by_cases c17 : 0 ≤ ((rd_T59 l2 x32_1).f0)
        ·rw [if_pos c17] at H
         have c17b0 : decide (0 ≤ ((rd_T59 l2 x32_1).f0)) = true := jP c17
         clear c17
         by_cases c18 : ((rd_T59 l2 x32_1).f0) < (x15_1.length : Int)
         ·rw [if_pos c18] at H
          have c18b0 : decide (((rd_T59 l2 x32_1).f0) < (x15_1.length : Int)) = true := jP c18
          clear c18
          obtain ⟨y473, hy473⟩ : ∃ y_ : List Int, y_ = (x15_1.set (((rd_T59 l2 x32_1).f0) : Int).toNat (-1)) := ⟨_, rfl⟩
          replace H : (impl_WithoutLateCues.l0 k1 l0 a3 a4 l5 y473 l2 (l2.length : Int) (wrap64 (x32_1 + 1))) = some (r1, r2) := by first | (rw [hy473]; with_reducible exact H) | (have H2_ := (Option.bind_some _ _).symm.trans H; rw [hy473]; with_reducible exact H2_) | (have H2_ := (Option.bind_some _ _).symm.trans H; with_reducible exact H2_) | with_reducible exact H | (rw [hy473]; exact H) | exact H
          have Ny473 := jA hy473
          clear hy473
          have H' := jA H
          clear H
          have p470 : 0 ≤ (x32_1 : Int) := jB za
          have q470 : x32_1 < (l2.length : Int) := jB za
          obtain ⟨ad470, e470, hx470_0, hx470_1, hx470_2⟩ := at_T59 HR2.out x32_1 p470 q470
          cases e470
          replace hx470_0 := (HB.out.cell (jC w _ hx470_0)).trans hx470_0
          replace hx470_1 := (HB.out.cell (jC w _ hx470_1)).trans hx470_1
          replace hx470_2 := (HB.out.cell (jC w _ hx470_2)).trans hx470_2
          replace p470 := eq_true p470
          replace q470 := eq_true q470
          go_wp2_with (first | ((with_reducible refine gate_dst (N := 17) rfl ?_); refine box_event ?hg (N := 17) ?hd (cs := #[.int .i64 0, .int .i64 0, .int .i64 0]) (t := 59) ?hr ?_; (case hd => rfl); (case hg => rfl); (case hr => first | (go_simp; done) | (go_simp; rfl)); intro gb471 hg w20 hbox hb; have n0_ := jA (jZ (zo HO_15) hb); have n1_ := jA (jV (zb0 HB) hb); have n2_ := jA (hbox); have n3_ := jA ((by rw [hg]; exact (jY (zb0 HB)) : w.heap.size ≤ gb471)); have n4_ := jA ((by rw [hg]; exact (jY (zb0 HB)) : w.heap.size ≤ gb471)); clear HO_15; clear HB; have HO_15 := n0_; have HB := n1_; have BK471 := n2_; have GW471 := n3_; have GE471 := n4_; clear n0_ n1_ n2_ n3_ n4_; clear hb hbox hg; have hcz21_0 : w20.cell? ⟨gb471, 0, none⟩ = some (.int .i64 0) := (jF BK471.out 0).trans rfl; have hcz21_1 : w20.cell? ⟨gb471, 1, none⟩ = some (.int .i64 0) := (jF BK471.out 1).trans rfl; have hcz21_2 : w20.cell? ⟨gb471, 2, none⟩ = some (.int .i64 0) := (jF BK471.out 2).trans rfl; have hfz21_0 := jX BK471.out 0; have hfz21_1 := jX BK471.out 1; have hfz21_2 := jX BK471.out 2) | ((with_reducible refine jN (f := 75) rfl ?_); refine goesL_ (some 41) rfl rfl Try.func75 zr rfl #[.slice A0 l0.length c0, .agg #[.int .i64 ((rd_T59 l2 x32_1).f0), .int .i64 ((rd_T59 l2 x32_1).f1), .int .i64 ((rd_T59 l2 x32_1).f2)], .int .i64 a3, .int .i64 a4, .slice A5 l5.length c5] rfl zm ?_; (with_reducible refine (impl_isLate.calls k1 _ _ l0 ((rd_T59 l2 x32_1).f0) ((rd_T59 l2 x32_1).f1) ((rd_T59 l2 x32_1).f2) a3 a4 _ _ l5 true _ ?side1 ?side2 ?side3 ?side4 A15.out).mono ?_); (case side1 => exact Kd.C_below HR0.out (zb1 HB GE471)); (case side2 => exact HC0.out); (case side3 => exact Kd.C_below HR5.out (zb1 HB GE471)); (case side4 => exact HC5.out); rintro e w22 ⟨rfl, hb⟩; refine ⟨_, rfl, ?_⟩; have n0_ := jA (jZ (by (with_reducible repeat (first | apply jH | apply jG | apply jK)); exact (Kd.R_mono (Kd.R_far (p := ⟨gb471, 2, none⟩) (Kd.R_far (p := ⟨gb471, 1, none⟩) (Kd.R_far (p := ⟨gb471, 0, none⟩) (Kd.R_types HO_15.out BK471.out (by decide)) (fun _ hk => hk.2) (.int .i64 ((rd_T59 l2 x32_1).f0))) (fun _ hk => hk.2) (.int .i64 ((rd_T59 l2 x32_1).f1))) (fun _ hk => hk.2) (.int .i64 ((rd_T59 l2 x32_1).f2))) (fun _ h_ => h_.1))) hb); have n1_ := jA (blk_below (g := gb471) (o := .cells #[.int .i64 ((rd_T59 l2 x32_1).f0), .int .i64 ((rd_T59 l2 x32_1).f1), .int .i64 ((rd_T59 l2 x32_1).f2)] 59 (0, 0)) (by (with_reducible repeat (first | refine jc ?_ _ | refine jb ?_ | refine jd ?_ _)); refine blk_put (cs := #[.int .i64 ((rd_T59 l2 x32_1).f0), .int .i64 ((rd_T59 l2 x32_1).f1), .int .i64 0]) ?_ 2 _ rfl; (with_reducible repeat (first | refine jc ?_ _ | refine jb ?_ | refine jd ?_ _)); refine blk_put (cs := #[.int .i64 ((rd_T59 l2 x32_1).f0), .int .i64 0, .int .i64 0]) ?_ 1 _ rfl; (with_reducible repeat (first | refine jc ?_ _ | refine jb ?_ | refine jd ?_ _)); refine blk_put (cs := #[.int .i64 0, .int .i64 0, .int .i64 0]) ?_ 0 _ rfl; (with_reducible repeat (first | refine jc ?_ _ | refine jb ?_ | refine jd ?_ _)); exact BK471.out) hb); have n2_ := jA (jV (zb1 HB GE471) hb); clear HO_15; clear BK471; clear HB; have HO_15 := n0_; have BK471 := n1_; have HB := n2_; clear n0_ n1_ n2_; (try clear hb); (try clear hb2); (try clear hk); (try clear hi); have hcz23_0 : w22.cell? ⟨gb471, 0, none⟩ = some (.int .i64 ((rd_T59 l2 x32_1).f0)) := (jF BK471.out 0).trans rfl; have hcz23_1 : w22.cell? ⟨gb471, 1, none⟩ = some (.int .i64 ((rd_T59 l2 x32_1).f1)) := (jF BK471.out 1).trans rfl; have hcz23_2 : w22.cell? ⟨gb471, 2, none⟩ = some (.int .i64 ((rd_T59 l2 x32_1).f2)) := (jF BK471.out 2).trans rfl; have hfz23_0 := jX BK471.out 0; have hfz23_1 := jX BK471.out 1; have hfz23_2 := jX BK471.out 2; have p19 : 0 ≤ (((rd_T59 l2 x32_1).f0) : Int) := jB za; have q19 : (((rd_T59 l2 x32_1).f0) : Int) < ((x15_1.length : Int) : Int) := jB za; obtain ⟨go19, co19, eo19, gb19, gl19, cl19, HG19⟩ := Kd.R_form HO_15.out (by omega); (first | cases eo19 | (injection eo19 with ea_ en_ ec_; (first | subst ea_ | (injection ea_ with ea_; subst ea_)); subst ec_; clear en_)); have GB19 := jA gb19; have GG19 := jA HG19; clear gb19 gl19 HG19; obtain ⟨hx19_0, hf19_0⟩ := Kd.R_celln 0 HO_15.out (((rd_T59 l2 x32_1).f0) : Int) p19 q19; replace p19 := eq_true p19; replace q19 := eq_true q19; obtain ⟨hy24_, hz24_⟩ := Kd.R_celln 0 HO_15.out (((rd_T59 l2 x32_1).f0) : Int) (jB za) (jB za); have HP24 := Kd.R_putg HO_15.out (((rd_T59 l2 x32_1).f0) : Int) (-1)) | ((with_reducible refine gate_store (t := 2) (p := 53) rfl ?_); refine store_event (t := 2) (p := 53) (v := ?vo_w25) (w1 := (w22.setCell ⟨go19, (((rd_T59 l2 x32_1).f0) : Int).toNat, none⟩ (.int .i64 (-1)))) ?hg ?ho ?hn ?hr ?_; (case ho => rfl); (case hg => rfl); (case hn => rfl); (case hr => first | (go_simp; done) | (go_simp; rfl)); intro w25 hw; have hg : w22.grownBy w25 (some go19) := (by rw [hw]; exact HP24.2); have hp_ : Kd.R (Kd.int .i64) 2 w25 w.heap.size (fun _ => True) (.slice (some ⟨go19, 0, none⟩) x15_1.length co19) y473 := (by rw [hw, Ny473.out]; exact HP24.1); clear HP24; have n0_ := jA (hp_); have n1_ := jA (blk_grown (g := gb471) (o := .cells #[.int .i64 ((rd_T59 l2 x32_1).f0), .int .i64 ((rd_T59 l2 x32_1).f1), .int .i64 ((rd_T59 l2 x32_1).f2)] 59 (0, 0)) (zk BK471) hg (Kd.R_ne HO_15.out BK471.out (by decide))); have n2_ := jA ((by rw [hw]; exact jL (HB.out) GB19.out : Below w.heap.size w w25)); clear HO_15; clear BK471; clear HB; have HO_15 := n0_; have BK471 := n1_; have HB := n2_; clear n0_ n1_ n2_; clear hg hw hp_))
          go_roundg k1
          case measure => have := HK1.out; omega
          case rel => exact ⟨(y473), (wrap64 (x32_1 + 1)), zz, H', ⟨by have := HK1.out; omega⟩, ⟨by (with_reducible repeat (first | apply jH | apply jG | apply jK)); exact HO_15.out⟩, ⟨zb1 HB GE471⟩⟩
         ·rw [if_neg c18] at H
          exact absurd H (by simp)
        ·rw [if_neg c17] at H
         exact absurd H (by simp)
       ·replace c16 := Bool.eq_false_iff.mpr c16
        subst c16
        have H1 : ((impl_isStopped.f k1 l0 ((rd_T59 l2 x32_1).f0) ((rd_T59 l2 x32_1).f1) ((rd_T59 l2 x32_1).f2) a3 a4 l5).bind fun t474 => (if t474 = true then (if 0 ≤ ((rd_T59 l2 x32_1).f0) then (if ((rd_T59 l2 x32_1).f0) < (x15_1.length : Int) then (impl_WithoutLateCues.l0 k1 l0 a3 a4 l5 (x15_1.set (((rd_T59 l2 x32_1).f0) : Int).toNat (-1)) l2 (l2.length : Int) (wrap64 (x32_1 + 1))) else (none)) else (none)) else (impl_WithoutLateCues.l0 k1 l0 a3 a4 l5 x15_1 l2 (l2.length : Int) (wrap64 (x32_1 + 1))))) = some (r1, r2) := by rw [if_neg (show ¬ (false = true) by decide)] at H; exact H
        clear H
        have H := H1
        clear H1
        replace H := jD.mp H
        obtain ⟨t474, A260, H⟩ := H
        replace H : (if t474 = true then (if 0 ≤ ((rd_T59 l2 x32_1).f0) then (if ((rd_T59 l2 x32_1).f0) < (x15_1.length : Int) then (impl_WithoutLateCues.l0 k1 l0 a3 a4 l5 (x15_1.set (((rd_T59 l2 x32_1).f0) : Int).toNat (-1)) l2 (l2.length : Int) (wrap64 (x32_1 + 1))) else (none)) else (none)) else (impl_WithoutLateCues.l0 k1 l0 a3 a4 l5 x15_1 l2 (l2.length : Int) (wrap64 (x32_1 + 1)))) = some (r1, r2) := H
        have A26 := jA A260
        clear A260
        by_cases c27 : t474 = true
        ·subst c27
         have H1 : (if 0 ≤ ((rd_T59 l2 x32_1).f0) then (if ((rd_T59 l2 x32_1).f0) < (x15_1.length : Int) then (impl_WithoutLateCues.l0 k1 l0 a3 a4 l5 (x15_1.set (((rd_T59 l2 x32_1).f0) : Int).toNat (-1)) l2 (l2.length : Int) (wrap64 (x32_1 + 1))) else (none)) else (none)) = some (r1, r2) := by rw [if_pos rfl] at H; exact H
         clear H
         have H := H1
         clear H1
         by_cases c28 : 0 ≤ ((rd_T59 l2 x32_1).f0)
         ·rw [if_pos c28] at H
          have c28b0 : decide (0 ≤ ((rd_T59 l2 x32_1).f0)) = true := jP c28
          clear c28
          by_cases c29 : ((rd_T59 l2 x32_1).f0) < (x15_1.length : Int)
          ·rw [if_pos c29] at H
           have c29b0 : decide (((rd_T59 l2 x32_1).f0) < (x15_1.length : Int)) = true := jP c29
           clear c29
           obtain ⟨y475, hy475⟩ : ∃ y_ : List Int, y_ = (x15_1.set (((rd_T59 l2 x32_1).f0) : Int).toNat (-1)) := ⟨_, rfl⟩
           replace H : (impl_WithoutLateCues.l0 k1 l0 a3 a4 l5 y475 l2 (l2.length : Int) (wrap64 (x32_1 + 1))) = some (r1, r2) := by first | (rw [hy475]; with_reducible exact H) | (have H2_ := (Option.bind_some _ _).symm.trans H; rw [hy475]; with_reducible exact H2_) | (have H2_ := (Option.bind_some _ _).symm.trans H; with_reducible exact H2_) | with_reducible exact H | (rw [hy475]; exact H) | exact H
           have Ny475 := jA hy475
           clear hy475
           have H' := jA H
           clear H
           have p470 : 0 ≤ (x32_1 : Int) := jB za
           have q470 : x32_1 < (l2.length : Int) := jB za
           obtain ⟨ad470, e470, hx470_0, hx470_1, hx470_2⟩ := at_T59 HR2.out x32_1 p470 q470
           cases e470
           replace hx470_0 := (HB.out.cell (jC w _ hx470_0)).trans hx470_0
           replace hx470_1 := (HB.out.cell (jC w _ hx470_1)).trans hx470_1
           replace hx470_2 := (HB.out.cell (jC w _ hx470_2)).trans hx470_2
           replace p470 := eq_true p470
           replace q470 := eq_true q470
           go_wp2_with (first | ((with_reducible refine gate_dst (N := 17) rfl ?_); refine box_event ?hg (N := 17) ?hd (cs := #[.int .i64 0, .int .i64 0, .int .i64 0]) (t := 59) ?hr ?_; (case hd => rfl); (case hg => rfl); (case hr => first | (go_simp; done) | (go_simp; rfl)); intro gb471 hg w31 hbox hb; have n0_ := jA (jZ (zo HO_15) hb); have n1_ := jA (jV (zb0 HB) hb); have n2_ := jA (hbox); have n3_ := jA ((by rw [hg]; exact (jY (zb0 HB)) : w.heap.size ≤ gb471)); have n4_ := jA ((by rw [hg]; exact (jY (zb0 HB)) : w.heap.size ≤ gb471)); clear HO_15; clear HB; have HO_15 := n0_; have HB := n1_; have BK471 := n2_; have GW471 := n3_; have GE471 := n4_; clear n0_ n1_ n2_ n3_ n4_; clear hb hbox hg; have hcz32_0 : w31.cell? ⟨gb471, 0, none⟩ = some (.int .i64 0) := (jF BK471.out 0).trans rfl; have hcz32_1 : w31.cell? ⟨gb471, 1, none⟩ = some (.int .i64 0) := (jF BK471.out 1).trans rfl; have hcz32_2 : w31.cell? ⟨gb471, 2, none⟩ = some (.int .i64 0) := (jF BK471.out 2).trans rfl; have hfz32_0 := jX BK471.out 0; have hfz32_1 := jX BK471.out 1; have hfz32_2 := jX BK471.out 2) | ((with_reducible refine jN (f := 75) rfl ?_); refine goesL_ (some 41) rfl rfl Try.func75 zr rfl #[.slice A0 l0.length c0, .agg #[.int .i64 ((rd_T59 l2 x32_1).f0), .int .i64 ((rd_T59 l2 x32_1).f1), .int .i64 ((rd_T59 l2 x32_1).f2)], .int .i64 a3, .int .i64 a4, .slice A5 l5.length c5] rfl zm ?_; (with_reducible refine (impl_isLate.calls k1 _ _ l0 ((rd_T59 l2 x32_1).f0) ((rd_T59 l2 x32_1).f1) ((rd_T59 l2 x32_1).f2) a3 a4 _ _ l5 false _ ?side1 ?side2 ?side3 ?side4 A15.out).mono ?_); (case side1 => exact Kd.C_below HR0.out (zb1 HB GE471)); (case side2 => exact HC0.out); (case side3 => exact Kd.C_below HR5.out (zb1 HB GE471)); (case side4 => exact HC5.out); rintro e w33 ⟨rfl, hb⟩; refine ⟨_, rfl, ?_⟩; have n0_ := jA (jZ (by (with_reducible repeat (first | apply jH | apply jG | apply jK)); exact (Kd.R_mono (Kd.R_far (p := ⟨gb471, 2, none⟩) (Kd.R_far (p := ⟨gb471, 1, none⟩) (Kd.R_far (p := ⟨gb471, 0, none⟩) (Kd.R_types HO_15.out BK471.out (by decide)) (fun _ hk => hk.2) (.int .i64 ((rd_T59 l2 x32_1).f0))) (fun _ hk => hk.2) (.int .i64 ((rd_T59 l2 x32_1).f1))) (fun _ hk => hk.2) (.int .i64 ((rd_T59 l2 x32_1).f2))) (fun _ h_ => h_.1))) hb); have n1_ := jA (blk_below (g := gb471) (o := .cells #[.int .i64 ((rd_T59 l2 x32_1).f0), .int .i64 ((rd_T59 l2 x32_1).f1), .int .i64 ((rd_T59 l2 x32_1).f2)] 59 (0, 0)) (by (with_reducible repeat (first | refine jc ?_ _ | refine jb ?_ | refine jd ?_ _)); refine blk_put (cs := #[.int .i64 ((rd_T59 l2 x32_1).f0), .int .i64 ((rd_T59 l2 x32_1).f1), .int .i64 0]) ?_ 2 _ rfl; (with_reducible repeat (first | refine jc ?_ _ | refine jb ?_ | refine jd ?_ _)); refine blk_put (cs := #[.int .i64 ((rd_T59 l2 x32_1).f0), .int .i64 0, .int .i64 0]) ?_ 1 _ rfl; (with_reducible repeat (first | refine jc ?_ _ | refine jb ?_ | refine jd ?_ _)); refine blk_put (cs := #[.int .i64 0, .int .i64 0, .int .i64 0]) ?_ 0 _ rfl; (with_reducible repeat (first | refine jc ?_ _ | refine jb ?_ | refine jd ?_ _)); exact BK471.out) hb); have n2_ := jA (jV (zb1 HB GE471) hb); clear HO_15; clear BK471; clear HB; have HO_15 := n0_; have BK471 := n1_; have HB := n2_; clear n0_ n1_ n2_; (try clear hb); (try clear hb2); (try clear hk); (try clear hi); have hcz34_0 : w33.cell? ⟨gb471, 0, none⟩ = some (.int .i64 ((rd_T59 l2 x32_1).f0)) := (jF BK471.out 0).trans rfl; have hcz34_1 : w33.cell? ⟨gb471, 1, none⟩ = some (.int .i64 ((rd_T59 l2 x32_1).f1)) := (jF BK471.out 1).trans rfl; have hcz34_2 : w33.cell? ⟨gb471, 2, none⟩ = some (.int .i64 ((rd_T59 l2 x32_1).f2)) := (jF BK471.out 2).trans rfl; have hfz34_0 := jX BK471.out 0; have hfz34_1 := jX BK471.out 1; have hfz34_2 := jX BK471.out 2) | (go_at_call 77; (with_reducible refine (impl_isStopped.calls k1 _ _ l0 ((rd_T59 l2 x32_1).f0) ((rd_T59 l2 x32_1).f1) ((rd_T59 l2 x32_1).f2) a3 a4 _ _ l5 true _ ?side1 ?side2 ?side3 ?side4 A26.out).mono ?_); (case side1 => exact zs HR0 HB); (case side2 => exact HC0.out); (case side3 => exact zs HR5 HB); (case side4 => exact HC5.out); rintro e w35 ⟨rfl, hb⟩; have n0_ := jA (jZ (zo HO_15) hb); have n1_ := jA (blk_below (g := gb471) (o := .cells #[.int .i64 ((rd_T59 l2 x32_1).f0), .int .i64 ((rd_T59 l2 x32_1).f1), .int .i64 ((rd_T59 l2 x32_1).f2)] 59 (0, 0)) (zk BK471) hb); have n2_ := jA (jV (zb1 HB GE471) hb); clear HO_15; clear BK471; clear HB; have HO_15 := n0_; have BK471 := n1_; have HB := n2_; clear n0_ n1_ n2_; (try clear hb); (try clear hb2); (try clear hk); (try clear hi); have hcz36_0 : w35.cell? ⟨gb471, 0, none⟩ = some (.int .i64 ((rd_T59 l2 x32_1).f0)) := (jF BK471.out 0).trans rfl; have hcz36_1 : w35.cell? ⟨gb471, 1, none⟩ = some (.int .i64 ((rd_T59 l2 x32_1).f1)) := (jF BK471.out 1).trans rfl; have hcz36_2 : w35.cell? ⟨gb471, 2, none⟩ = some (.int .i64 ((rd_T59 l2 x32_1).f2)) := (jF BK471.out 2).trans rfl; have hfz36_0 := jX BK471.out 0; have hfz36_1 := jX BK471.out 1; have hfz36_2 := jX BK471.out 2; have p30 : 0 ≤ (((rd_T59 l2 x32_1).f0) : Int) := jB za; have q30 : (((rd_T59 l2 x32_1).f0) : Int) < ((x15_1.length : Int) : Int) := jB za; obtain ⟨go30, co30, eo30, gb30, gl30, cl30, HG30⟩ := Kd.R_form HO_15.out (by omega); (first | cases eo30 | (injection eo30 with ea_ en_ ec_; (first | subst ea_ | (injection ea_ with ea_; subst ea_)); subst ec_; clear en_)); have GB30 := jA gb30; have GG30 := jA HG30; clear gb30 gl30 HG30; obtain ⟨hx30_0, hf30_0⟩ := Kd.R_celln 0 HO_15.out (((rd_T59 l2 x32_1).f0) : Int) p30 q30; replace p30 := eq_true p30; replace q30 := eq_true q30; obtain ⟨hy37_, hz37_⟩ := Kd.R_celln 0 HO_15.out (((rd_T59 l2 x32_1).f0) : Int) (jB za) (jB za); have HP37 := Kd.R_putg HO_15.out (((rd_T59 l2 x32_1).f0) : Int) (-1)) | ((with_reducible refine gate_store (t := 2) (p := 53) rfl ?_); refine store_event (t := 2) (p := 53) (v := ?vo_w38) (w1 := (w35.setCell ⟨go30, (((rd_T59 l2 x32_1).f0) : Int).toNat, none⟩ (.int .i64 (-1)))) ?hg ?ho ?hn ?hr ?_; (case ho => rfl); (case hg => rfl); (case hn => rfl); (case hr => first | (go_simp; done) | (go_simp; rfl)); intro w38 hw; have hg : w35.grownBy w38 (some go30) := (by rw [hw]; exact HP37.2); have hp_ : Kd.R (Kd.int .i64) 2 w38 w.heap.size (fun _ => True) (.slice (some ⟨go30, 0, none⟩) x15_1.length co30) y475 := (by rw [hw, Ny475.out]; exact HP37.1); clear HP37; have n0_ := jA (hp_); have n1_ := jA (blk_grown (g := gb471) (o := .cells #[.int .i64 ((rd_T59 l2 x32_1).f0), .int .i64 ((rd_T59 l2 x32_1).f1), .int .i64 ((rd_T59 l2 x32_1).f2)] 59 (0, 0)) (zk BK471) hg (Kd.R_ne HO_15.out BK471.out (by decide))); have n2_ := jA ((by rw [hw]; exact jL (HB.out) GB30.out : Below w.heap.size w w38)); clear HO_15; clear BK471; clear HB; have HO_15 := n0_; have BK471 := n1_; have HB := n2_; clear n0_ n1_ n2_; clear hg hw hp_))
           go_roundg k1
           case measure => have := HK1.out; omega
           case rel => exact ⟨(y475), (wrap64 (x32_1 + 1)), zz, H', ⟨by have := HK1.out; omega⟩, ⟨by (with_reducible repeat (first | apply jH | apply jG | apply jK)); exact HO_15.out⟩, ⟨zb1 HB GE471⟩⟩
          ·rw [if_neg c29] at H
           exact absurd H (by simp)
         ·rw [if_neg c28] at H
          exact absurd H (by simp)
        ·replace c27 := Bool.eq_false_iff.mpr c27
         subst c27
         have H1 : (impl_WithoutLateCues.l0 k1 l0 a3 a4 l5 x15_1 l2 (l2.length : Int) (wrap64 (x32_1 + 1))) = some (r1, r2) := by rw [if_neg (show ¬ (false = true) by decide)] at H; exact H
         clear H
         have H := H1
         clear H1
         have H' := jA H
         clear H
         have p470 : 0 ≤ (x32_1 : Int) := jB za
         have q470 : x32_1 < (l2.length : Int) := jB za
         obtain ⟨ad470, e470, hx470_0, hx470_1, hx470_2⟩ := at_T59 HR2.out x32_1 p470 q470
         cases e470
         replace hx470_0 := (HB.out.cell (jC w _ hx470_0)).trans hx470_0
         replace hx470_1 := (HB.out.cell (jC w _ hx470_1)).trans hx470_1
         replace hx470_2 := (HB.out.cell (jC w _ hx470_2)).trans hx470_2
         replace p470 := eq_true p470
         replace q470 := eq_true q470
         go_wp2_with (first | ((with_reducible refine gate_dst (N := 17) rfl ?_); refine box_event ?hg (N := 17) ?hd (cs := #[.int .i64 0, .int .i64 0, .int .i64 0]) (t := 59) ?hr ?_; (case hd => rfl); (case hg => rfl); (case hr => first | (go_simp; done) | (go_simp; rfl)); intro gb471 hg w39 hbox hb; have n0_ := jA (jZ (zo HO_15) hb); have n1_ := jA (jV (zb0 HB) hb); have n2_ := jA (hbox); have n3_ := jA ((by rw [hg]; exact (jY (zb0 HB)) : w.heap.size ≤ gb471)); have n4_ := jA ((by rw [hg]; exact (jY (zb0 HB)) : w.heap.size ≤ gb471)); clear HO_15; clear HB; have HO_15 := n0_; have HB := n1_; have BK471 := n2_; have GW471 := n3_; have GE471 := n4_; clear n0_ n1_ n2_ n3_ n4_; clear hb hbox hg; have hcz40_0 : w39.cell? ⟨gb471, 0, none⟩ = some (.int .i64 0) := (jF BK471.out 0).trans rfl; have hcz40_1 : w39.cell? ⟨gb471, 1, none⟩ = some (.int .i64 0) := (jF BK471.out 1).trans rfl; have hcz40_2 : w39.cell? ⟨gb471, 2, none⟩ = some (.int .i64 0) := (jF BK471.out 2).trans rfl; have hfz40_0 := jX BK471.out 0; have hfz40_1 := jX BK471.out 1; have hfz40_2 := jX BK471.out 2) | ((with_reducible refine jN (f := 75) rfl ?_); refine goesL_ (some 41) rfl rfl Try.func75 zr rfl #[.slice A0 l0.length c0, .agg #[.int .i64 ((rd_T59 l2 x32_1).f0), .int .i64 ((rd_T59 l2 x32_1).f1), .int .i64 ((rd_T59 l2 x32_1).f2)], .int .i64 a3, .int .i64 a4, .slice A5 l5.length c5] rfl zm ?_; (with_reducible refine (impl_isLate.calls k1 _ _ l0 ((rd_T59 l2 x32_1).f0) ((rd_T59 l2 x32_1).f1) ((rd_T59 l2 x32_1).f2) a3 a4 _ _ l5 false _ ?side1 ?side2 ?side3 ?side4 A15.out).mono ?_); (case side1 => exact Kd.C_below HR0.out (zb1 HB GE471)); (case side2 => exact HC0.out); (case side3 => exact Kd.C_below HR5.out (zb1 HB GE471)); (case side4 => exact HC5.out); rintro e w41 ⟨rfl, hb⟩; refine ⟨_, rfl, ?_⟩; have n0_ := jA (jZ (by (with_reducible repeat (first | apply jH | apply jG | apply jK)); exact (Kd.R_mono (Kd.R_far (p := ⟨gb471, 2, none⟩) (Kd.R_far (p := ⟨gb471, 1, none⟩) (Kd.R_far (p := ⟨gb471, 0, none⟩) (Kd.R_types HO_15.out BK471.out (by decide)) (fun _ hk => hk.2) (.int .i64 ((rd_T59 l2 x32_1).f0))) (fun _ hk => hk.2) (.int .i64 ((rd_T59 l2 x32_1).f1))) (fun _ hk => hk.2) (.int .i64 ((rd_T59 l2 x32_1).f2))) (fun _ h_ => h_.1))) hb); have n1_ := jA (blk_below (g := gb471) (o := .cells #[.int .i64 ((rd_T59 l2 x32_1).f0), .int .i64 ((rd_T59 l2 x32_1).f1), .int .i64 ((rd_T59 l2 x32_1).f2)] 59 (0, 0)) (by (with_reducible repeat (first | refine jc ?_ _ | refine jb ?_ | refine jd ?_ _)); refine blk_put (cs := #[.int .i64 ((rd_T59 l2 x32_1).f0), .int .i64 ((rd_T59 l2 x32_1).f1), .int .i64 0]) ?_ 2 _ rfl; (with_reducible repeat (first | refine jc ?_ _ | refine jb ?_ | refine jd ?_ _)); refine blk_put (cs := #[.int .i64 ((rd_T59 l2 x32_1).f0), .int .i64 0, .int .i64 0]) ?_ 1 _ rfl; (with_reducible repeat (first | refine jc ?_ _ | refine jb ?_ | refine jd ?_ _)); refine blk_put (cs := #[.int .i64 0, .int .i64 0, .int .i64 0]) ?_ 0 _ rfl; (with_reducible repeat (first | refine jc ?_ _ | refine jb ?_ | refine jd ?_ _)); exact BK471.out) hb); have n2_ := jA (jV (zb1 HB GE471) hb); clear HO_15; clear BK471; clear HB; have HO_15 := n0_; have BK471 := n1_; have HB := n2_; clear n0_ n1_ n2_; (try clear hb); (try clear hb2); (try clear hk); (try clear hi); have hcz42_0 : w41.cell? ⟨gb471, 0, none⟩ = some (.int .i64 ((rd_T59 l2 x32_1).f0)) := (jF BK471.out 0).trans rfl; have hcz42_1 : w41.cell? ⟨gb471, 1, none⟩ = some (.int .i64 ((rd_T59 l2 x32_1).f1)) := (jF BK471.out 1).trans rfl; have hcz42_2 : w41.cell? ⟨gb471, 2, none⟩ = some (.int .i64 ((rd_T59 l2 x32_1).f2)) := (jF BK471.out 2).trans rfl; have hfz42_0 := jX BK471.out 0; have hfz42_1 := jX BK471.out 1; have hfz42_2 := jX BK471.out 2) | (go_at_call 77; (with_reducible refine (impl_isStopped.calls k1 _ _ l0 ((rd_T59 l2 x32_1).f0) ((rd_T59 l2 x32_1).f1) ((rd_T59 l2 x32_1).f2) a3 a4 _ _ l5 false _ ?side1 ?side2 ?side3 ?side4 A26.out).mono ?_); (case side1 => exact zs HR0 HB); (case side2 => exact HC0.out); (case side3 => exact zs HR5 HB); (case side4 => exact HC5.out); rintro e w43 ⟨rfl, hb⟩; have n0_ := jA (jZ (zo HO_15) hb); have n1_ := jA (blk_below (g := gb471) (o := .cells #[.int .i64 ((rd_T59 l2 x32_1).f0), .int .i64 ((rd_T59 l2 x32_1).f1), .int .i64 ((rd_T59 l2 x32_1).f2)] 59 (0, 0)) (zk BK471) hb); have n2_ := jA (jV (zb1 HB GE471) hb); clear HO_15; clear BK471; clear HB; have HO_15 := n0_; have BK471 := n1_; have HB := n2_; clear n0_ n1_ n2_; (try clear hb); (try clear hb2); (try clear hk); (try clear hi)))
         go_roundg k1
         case measure => have := HK1.out; omega
         case rel => exact ⟨(x15_1), (wrap64 (x32_1 + 1)), zz, H', ⟨by have := HK1.out; omega⟩, ⟨by (with_reducible repeat (first | apply jH | apply jG | apply jK)); exact HO_15.out⟩, ⟨zb1 HB GE471⟩⟩
      ·rw [if_neg c14] at H
       exact absurd H (by simp)
     ·rw [if_neg c13] at H
      exact absurd H (by simp)
    ·rw [if_neg c12] at H
     have c12b0 : decide (x32_1 < (l2.length : Int)) = false := ja c12
     clear c12
     simp only [je, jg] at H
     obtain ⟨rfl, rfl⟩ := H
     go_wp2
     go_ret2
     exact ⟨_, by first | rfl | (simp [errW_none, errW_some] <;> rfl) | (simp [*, errW_none, errW_some] <;> rfl), by (with_reducible repeat (first | apply jH | apply jG | apply jK)); exact HO_15.out, zb0 HB⟩
 ·rw [if_neg c8] at H
  have c8b0 : (t466 == 0) = false := beq_eq_false_iff_ne.mpr c8
  have c8b1 : (t466 != 0) = true := bne_iff_ne.mpr c8
  simp only [je, jg] at H
  obtain ⟨rfl, rfl⟩ := H
  go_enter Try.func47, Try.ntmps47
  go_wp2_with (first | ((with_reducible refine jN (f := 74) rfl ?_); refine goesL_ (some 24) rfl rfl Try.func74 zr rfl #[.slice A0 l0.length c0, .int .i64 a1, .slice A2 l2.length c2, .int .i64 a3, .int .i64 a4, .slice A5 l5.length c5] rfl zm ?_; (with_reducible refine (impl_stopsAsked.calls k _ _ l0 a1 _ _ l2 a3 a4 _ _ l5 t466 _ ?side1 ?side2 ?side3 ?side4 ?side5 ?side6 A7.out).mono ?_); (case side1 => repeat (first | exact HR0.out | (with_reducible refine jR ?_ _) | (with_reducible refine jQ ?_ _) | (with_reducible refine jS ?_))); (case side2 => exact HC0.out); (case side3 => repeat (first | exact HR2.out | (with_reducible refine jR ?_ _) | (with_reducible refine jQ ?_ _) | (with_reducible refine jS ?_))); (case side4 => exact HC2.out); (case side5 => repeat (first | exact HR5.out | (with_reducible refine jR ?_ _) | (with_reducible refine jQ ?_ _) | (with_reducible refine jS ?_))); (case side6 => exact HC5.out); rintro e w44 ⟨rfl, hb⟩; refine ⟨_, rfl, ?_⟩; have n0_ := jA (jV (zb0 HB) hb); clear HB; have HB := n0_; clear n0_; (try clear hb); (try clear hb2); (try clear hk); (try clear hi)))
  go_ret2
  exact ⟨_, by first | rfl | (simp [errW_none, errW_some] <;> rfl) | (simp [*, errW_none, errW_some] <;> rfl), by first | exact Kd.R_nil _ _ _ _ _ | exact Kd.N_nil _ _ _ _ _ | exact Kd.V_nil _ _ _ _ _ | exact Kd.Q_nil _ _ _ _ _ | exact Kd.S_nil _ _ _ _ _, zb0 HB⟩

/-! ### spec_l01Has: function 80 -/
def spec_l01Has.l0 : Nat → List Int → Int → Int → Option (Bool)
 | 0, _, _, _ => none
 | k + 1, x0, x1, x5 => if x5 < (x0.length : Int) then (if 0 ≤ x5 then (if (rd x0 x5) = x1 then (some true) else (spec_l01Has.l0 k x0 x1 (wrap64 (x5 + 1)))) else (none)) else (some false)
def spec_l01Has.f (k : Nat) (l0 : List Int) (a1 : Int) : Option (Bool) := spec_l01Has.l0 k l0 a1 0
theorem spec_l01Has.mono_l : ∀ k, (∀ y0 y1 y2, LeO (spec_l01Has.l0 k y0 y1 y2) (spec_l01Has.l0 (k + 1) y0 y1 y2))
 | 0 => fun _ _ _ r h => by simp [spec_l01Has.l0] at h
 | k + 1 => by
  have ih0 := spec_l01Has.mono_l k
  ·intro y0 y1 y2
   unfold spec_l01Has.l0
   repeat' first
   | (with_reducible exact ih0 _ _ _)
   | (with_reducible exact LeO.refl _)
   | (with_reducible exact LeO.none _)
   | (with_reducible refine LeO.ite ?_ ?_)
   | (with_reducible refine LeO.bind ?_ (fun _ => ?_))
   | exact ih0 _ _ _
   | exact LeO.none _
   | refine LeO.ite ?_ ?_
   | refine LeO.bind ?_ (fun _ => ?_)
theorem spec_l01Has.mono : ∀ a0 a1 k, LeO (spec_l01Has.f k a0 a1) (spec_l01Has.f (k + 1) a0 a1) := by
 intro a0 a1 k
 have ih0 := spec_l01Has.mono_l k
 unfold spec_l01Has.f
 repeat' first
   | (with_reducible exact ih0 _ _ _)
   | (with_reducible exact LeO.refl _)
   | (with_reducible exact LeO.none _)
   | (with_reducible refine LeO.ite ?_ ?_)
   | (with_reducible refine LeO.bind ?_ (fun _ => ?_))
   | exact ih0 _ _ _
   | exact LeO.none _
   | refine LeO.ite ?_ ?_
   | refine LeO.bind ?_ (fun _ => ?_)
set_option maxHeartbeats 8000000 in
set_option maxRecDepth 100000 in
theorem spec_l01Has.calls (k : Nat) (A0 : Option Addr) (c0 : Nat) (l0 : List Int) (a1 : Int) (r : Bool) (w : World) (hr0 : Kd.C (Kd.int .i64) w A0 l0.length l0) (hc0 : l0.length ≤ c0) (h : spec_l01Has.f k l0 a1 = some r) :
  Calls Try.prog 80 #[.slice A0 l0.length c0, .int .i64 a1] w fun e w' => e = .returned (.bool r) ∧ Drawn0 w w' := by
 have HR0 := jA hr0
 have HC0 := jA hc0
 clear hr0 hc0
 have H : (spec_l01Has.l0 k l0 a1 0) = some r := h
 clear h
 have H' := jA H
 clear H
 go_enter Try.func80, Try.ntmps80
 go_wp2
 go_loopg [5] k (fun kq v5 w' => ∃ (x5_1 : Int), v5 = .int .i64 x5_1 ∧ Aside0 (spec_l01Has.l0 kq l0 a1 x5_1 = some r) ∧ Aside0 (kq ≤ k) ∧ Drawn0 w w')
 case atStart => exact ⟨(0), zz, H', ⟨Nat.le_refl _⟩, by repeat (first | exact Drawn0.refl _ | apply Drawn0.step)⟩
 case round =>
  clear H'
  try clear p2
  obtain ⟨x5_1, rfl, HA, HK1, ⟨m1, rfl⟩⟩ := hrel
  cases gk with
  | zero => exact absurd HA.out (by simp [spec_l01Has.l0])
  | succ k1 =>
   have H := HA.out
   clear HA
   simp only [spec_l01Has.l0] at H
   by_cases c3 : x5_1 < (l0.length : Int)
   ·rw [if_pos c3] at H
    have c3b0 : decide (x5_1 < (l0.length : Int)) = true := jP c3
    clear c3
    by_cases c4 : 0 ≤ x5_1
    ·rw [if_pos c4] at H
     have c4b0 : decide (0 ≤ x5_1) = true := jP c4
     clear c4
     by_cases c5 : (rd l0 x5_1) = a1
     ·rw [if_pos c5] at H
      have c5b0 : ((rd l0 x5_1) == a1) = true := beq_iff_eq.mpr c5
      have c5b1 : ((rd l0 x5_1) != a1) = false := bne_eq_false_iff_eq.mpr c5
      clear c5
      obtain rfl := jW H
      have p476 : 0 ≤ (x5_1 : Int) := jB za
      have q476 : x5_1 < (l0.length : Int) := jB za
      obtain ⟨ad476, e476, hx476_0⟩ := jh HR0.out x5_1 p476 q476
      cases e476
      replace p476 := eq_true p476
      replace q476 := eq_true q476
      go_wp2
      go_ret
      exact ⟨by first | rfl | (simp; done) | (simp [*]; done), by repeat (first | exact Drawn0.refl _ | apply Drawn0.step)⟩
     ·rw [if_neg c5] at H
      have c5b0 : ((rd l0 x5_1) == a1) = false := beq_eq_false_iff_ne.mpr c5
      have c5b1 : ((rd l0 x5_1) != a1) = true := bne_iff_ne.mpr c5
      have H' := jA H
      clear H
      have p476 : 0 ≤ (x5_1 : Int) := jB za
      have q476 : x5_1 < (l0.length : Int) := jB za
      obtain ⟨ad476, e476, hx476_0⟩ := jh HR0.out x5_1 p476 q476
      cases e476
      replace p476 := eq_true p476
      replace q476 := eq_true q476
      go_wp2
      go_roundg k1
      case measure => have := HK1.out; omega
      case rel => exact ⟨(wrap64 (x5_1 + 1)), zz, H', ⟨by have := HK1.out; omega⟩, by repeat (first | exact Drawn0.refl _ | apply Drawn0.step)⟩
    ·rw [if_neg c4] at H
     exact absurd H (by simp)
   ·rw [if_neg c3] at H
    have c3b0 : decide (x5_1 < (l0.length : Int)) = false := ja c3
    clear c3
    obtain rfl := jW H
    go_wp2
    go_ret
    exact ⟨by first | rfl | (simp; done) | (simp [*]; done), by repeat (first | exact Drawn0.refl _ | apply Drawn0.step)⟩

/-! ### spec_WithoutLateCues: function 48 -/
def spec_WithoutLateCues.l0 : Nat → Int → List Int → List Int → List Int → Int → Option (List Int × Int)
 | 0, _, _, _, _, _ => none
 | k + 1, x1, x5, x15, x16, x17 => if x17 < x1 then ((spec_l01Has.f k x15 x17).bind fun t490 => (if t490 = true then (if x16.length < 17592186044416 then (spec_WithoutLateCues.l0 k x1 x5 x15 (x16 ++ [(-1)]) (wrap64 (x17 + 1))) else (none)) else (if 0 ≤ x17 then (if x17 < (x5.length : Int) then (if x16.length < 17592186044416 then (spec_WithoutLateCues.l0 k x1 x5 x15 (x16 ++ [rd x5 x17]) (wrap64 (x17 + 1))) else (none)) else (none)) else (none)))) else (some (x16, 0))
def spec_WithoutLateCues.f (k : Nat) (l0 : List (S63)) (a1 : Int) (l2 : List (S59)) (a3 : Int) (a4 : Int) (l5 : List Int) : Option (List Int × Int) := (spec_l23Cues.f k l0 a1 l2 a3 a4 l5).bind fun t477 => (if t477 = 0 then ((spec_l23Some.f k l0 l2 a3 a4 l5 false).bind fun t478 => ((spec_l23Some.f k l0 l2 a3 a4 l5 true).bind fun t481 => (if t478.length + t481.length < 17592186044416 then (spec_WithoutLateCues.l0 k a1 l5 (t478 ++ t481) (([] : List Int)) 0) else (none)))) else (some (([] : List Int), t477)))
theorem spec_WithoutLateCues.mono_l : ∀ k, (∀ y0 y1 y2 y3 y4, LeO (spec_WithoutLateCues.l0 k y0 y1 y2 y3 y4) (spec_WithoutLateCues.l0 (k + 1) y0 y1 y2 y3 y4))
 | 0 => fun _ _ _ _ _ r h => by simp [spec_WithoutLateCues.l0] at h
 | k + 1 => by
  have ih0 := spec_WithoutLateCues.mono_l k
  ·intro y0 y1 y2 y3 y4
   unfold spec_WithoutLateCues.l0
   repeat' first
   | (with_reducible exact ih0 _ _ _ _ _)
   | (with_reducible exact spec_l01Has.mono _ _ _)
   | (with_reducible exact spec_l23Cues.mono _ _ _ _ _ _ _)
   | (with_reducible exact spec_l23Some.mono _ _ _ _ _ _ _)
   | (with_reducible exact LeO.refl _)
   | (with_reducible exact LeO.none _)
   | (with_reducible refine LeO.ite ?_ ?_)
   | (with_reducible refine LeO.bind ?_ (fun _ => ?_))
   | exact ih0 _ _ _ _ _
   | exact spec_l01Has.mono _ _ _
   | exact spec_l23Cues.mono _ _ _ _ _ _ _
   | exact spec_l23Some.mono _ _ _ _ _ _ _
   | exact LeO.none _
   | refine LeO.ite ?_ ?_
   | refine LeO.bind ?_ (fun _ => ?_)
theorem spec_WithoutLateCues.mono : ∀ a0 a1 a2 a3 a4 a5 k, LeO (spec_WithoutLateCues.f k a0 a1 a2 a3 a4 a5) (spec_WithoutLateCues.f (k + 1) a0 a1 a2 a3 a4 a5) := by
 intro a0 a1 a2 a3 a4 a5 k
 have ih0 := spec_WithoutLateCues.mono_l k
 unfold spec_WithoutLateCues.f
 repeat' first
   | (with_reducible exact ih0 _ _ _ _ _)
   | (with_reducible exact spec_l01Has.mono _ _ _)
   | (with_reducible exact spec_l23Cues.mono _ _ _ _ _ _ _)
   | (with_reducible exact spec_l23Some.mono _ _ _ _ _ _ _)
   | (with_reducible exact LeO.refl _)
   | (with_reducible exact LeO.none _)
   | (with_reducible refine LeO.ite ?_ ?_)
   | (with_reducible refine LeO.bind ?_ (fun _ => ?_))
   | exact ih0 _ _ _ _ _
   | exact spec_l01Has.mono _ _ _
   | exact spec_l23Cues.mono _ _ _ _ _ _ _
   | exact spec_l23Some.mono _ _ _ _ _ _ _
   | exact LeO.none _
   | refine LeO.ite ?_ ?_
   | refine LeO.bind ?_ (fun _ => ?_)
set_option maxHeartbeats 8000000 in
set_option maxRecDepth 100000 in
theorem spec_WithoutLateCues.calls (k : Nat) (A0 : Option Addr) (c0 : Nat) (l0 : List (S63)) (a1 : Int) (A2 : Option Addr) (c2 : Nat) (l2 : List (S59)) (a3 : Int) (a4 : Int) (A5 : Option Addr) (c5 : Nat) (l5 : List Int) (r1 : List Int) (r2 : Int) (w : World) (hr0 : Kd.C k63 w A0 l0.length l0) (hc0 : l0.length ≤ c0) (hr2 : Kd.C k59 w A2 l2.length l2) (hc2 : l2.length ≤ c2) (hr5 : Kd.C (Kd.int .i64) w A5 l5.length l5) (hc5 : l5.length ≤ c5) (h : spec_WithoutLateCues.f k l0 a1 l2 a3 a4 l5 = some (r1, r2)) :
  Calls Try.prog 48 #[.slice A0 l0.length c0, .int .i64 a1, .slice A2 l2.length c2, .int .i64 a3, .int .i64 a4, .slice A5 l5.length c5] w fun e w' => ∃ v0_ : Value, e = .returned (.tuple #[v0_, .int .i64 r2]) ∧ Kd.R (Kd.int .i64) 2 w' w.heap.size (fun _ => True) v0_ r1 ∧ Below w.heap.size w w' := by
 have HR0 := jA hr0
 have HC0 := jA hc0
 clear hr0 hc0
 have HR2 := jA hr2
 have HC2 := jA hc2
 clear hr2 hc2
 have HR5 := jA hr5
 have HC5 := jA hc5
 clear hr5 hc5
 have HB := jA (Below.refl w.heap.size w)
 have H : ((spec_l23Cues.f k l0 a1 l2 a3 a4 l5).bind fun t477 => (if t477 = 0 then ((spec_l23Some.f k l0 l2 a3 a4 l5 false).bind fun t478 => ((spec_l23Some.f k l0 l2 a3 a4 l5 true).bind fun t481 => (if t478.length + t481.length < 17592186044416 then (spec_WithoutLateCues.l0 k a1 l5 (t478 ++ t481) (([] : List Int)) 0) else (none)))) else (some (([] : List Int), t477)))) = some (r1, r2) := h
 clear h
 replace H := jD.mp H
 obtain ⟨t477, A70, H⟩ := H
 replace H : (if t477 = 0 then ((spec_l23Some.f k l0 l2 a3 a4 l5 false).bind fun t478 => ((spec_l23Some.f k l0 l2 a3 a4 l5 true).bind fun t481 => (if t478.length + t481.length < 17592186044416 then (spec_WithoutLateCues.l0 k a1 l5 (t478 ++ t481) (([] : List Int)) 0) else (none)))) else (some (([] : List Int), t477))) = some (r1, r2) := H
 have A7 := jA A70
 clear A70
 by_cases c8 : t477 = 0
 ·rw [if_pos c8] at H
  have c8b0 : (t477 == 0) = true := beq_iff_eq.mpr c8
  have c8b1 : (t477 != 0) = false := bne_eq_false_iff_eq.mpr c8
  clear c8
  replace H := jD.mp H
  obtain ⟨t478, A90, H⟩ := H
  replace H : ((spec_l23Some.f k l0 l2 a3 a4 l5 true).bind fun t481 => (if t478.length + t481.length < 17592186044416 then (spec_WithoutLateCues.l0 k a1 l5 (t478 ++ t481) (([] : List Int)) 0) else (none))) = some (r1, r2) := H
  have A9 := jA A90
  clear A90
  replace H := jD.mp H
  obtain ⟨t481, A100, H⟩ := H
  replace H : (if t478.length + t481.length < 17592186044416 then (spec_WithoutLateCues.l0 k a1 l5 (t478 ++ t481) (([] : List Int)) 0) else (none)) = some (r1, r2) := H
  have A10 := jA A100
  clear A100
  by_cases c11 : t478.length + t481.length < 17592186044416
  ·rw [if_pos c11] at H
   have LMc11 := jA c11
   clear c11
   obtain ⟨y484, hy484⟩ : ∃ y_ : List Int, y_ = (t478 ++ t481) := ⟨_, rfl⟩
   replace H : (spec_WithoutLateCues.l0 k a1 l5 y484 (([] : List Int)) 0) = some (r1, r2) := by first | (rw [hy484]; with_reducible exact H) | (have H2_ := (Option.bind_some _ _).symm.trans H; rw [hy484]; with_reducible exact H2_) | (have H2_ := (Option.bind_some _ _).symm.trans H; with_reducible exact H2_) | with_reducible exact H | (rw [hy484]; exact H) | exact H
   have Ny484 := jA hy484
   clear hy484
   obtain ⟨y487, hy487⟩ : ∃ y_ : List Int, y_ = (([] : List Int)) := ⟨_, rfl⟩
   replace H : (spec_WithoutLateCues.l0 k a1 l5 y484 y487 0) = some (r1, r2) := by first | (rw [hy487]; with_reducible exact H) | (have H2_ := (Option.bind_some _ _).symm.trans H; rw [hy487]; with_reducible exact H2_) | (have H2_ := (Option.bind_some _ _).symm.trans H; with_reducible exact H2_) | with_reducible exact H | (rw [hy487]; exact H) | exact H
   have Ny487 := jA hy487
   clear hy487
   have H' := jA H
   clear H
   go_enter Try.func48, Try.ntmps48
   go_wp2_with (first | ((with_reducible refine jN (f := 70) rfl ?_); refine goesL_ (some 24) rfl rfl Try.func70 zr rfl #[.slice A0 l0.length c0, .int .i64 a1, .slice A2 l2.length c2, .int .i64 a3, .int .i64 a4, .slice A5 l5.length c5] rfl zm ?_; (with_reducible refine (spec_l23Cues.calls k _ _ l0 a1 _ _ l2 a3 a4 _ _ l5 t477 _ ?side1 ?side2 ?side3 ?side4 ?side5 ?side6 A7.out).mono ?_); (case side1 => repeat (first | exact HR0.out | (with_reducible refine jR ?_ _) | (with_reducible refine jQ ?_ _) | (with_reducible refine jS ?_))); (case side2 => exact HC0.out); (case side3 => repeat (first | exact HR2.out | (with_reducible refine jR ?_ _) | (with_reducible refine jQ ?_ _) | (with_reducible refine jS ?_))); (case side4 => exact HC2.out); (case side5 => repeat (first | exact HR5.out | (with_reducible refine jR ?_ _) | (with_reducible refine jQ ?_ _) | (with_reducible refine jS ?_))); (case side6 => exact HC5.out); rintro e w12 ⟨rfl, hb⟩; refine ⟨_, rfl, ?_⟩; have n0_ := jA (jV (zb0 HB) hb); clear HB; have HB := n0_; clear n0_; (try clear hb); (try clear hb2); (try clear hk); (try clear hi)) | ((with_reducible refine jN (f := 71) rfl ?_); refine goesL_ (some 33) rfl rfl Try.func71 zr rfl #[.slice A0 l0.length c0, .slice A2 l2.length c2, .int .i64 a3, .int .i64 a4, .slice A5 l5.length c5, .bool false] rfl zm ?_; (with_reducible refine (spec_l23Some.calls k _ _ l0 _ _ l2 a3 a4 _ _ l5 false t478 _ ?side1 ?side2 ?side3 ?side4 ?side5 ?side6 A9.out).mono ?_); (case side1 => exact zs HR0 HB); (case side2 => exact HC0.out); (case side3 => exact zs HR2 HB); (case side4 => exact HC2.out); (case side5 => exact zs HR5 HB); (case side6 => exact HC5.out); rintro e w13 ⟨v479, rfl, ho0, hb⟩; refine ⟨_, rfl, ?_⟩; have n0_ := jA (jf ho0 (jY (zb0 HB))); have n1_ := jA (jV (zb0 HB) hb); clear HB; have HO480 := n0_; have HB := n1_; clear n0_ n1_; (try clear hb); (try clear hb2); (try clear hk); (try clear hi); (try clear ho0)) | ((with_reducible refine jN (f := 71) rfl ?_); refine goesL_ (some 39) rfl rfl Try.func71 zr rfl #[.slice A0 l0.length c0, .slice A2 l2.length c2, .int .i64 a3, .int .i64 a4, .slice A5 l5.length c5, .bool true] rfl zm ?_; (with_reducible refine (spec_l23Some.calls k _ _ l0 _ _ l2 a3 a4 _ _ l5 true t481 _ ?side1 ?side2 ?side3 ?side4 ?side5 ?side6 A10.out).mono ?_); (case side1 => exact zs HR0 HB); (case side2 => exact HC0.out); (case side3 => exact zs HR2 HB); (case side4 => exact HC2.out); (case side5 => exact zs HR5 HB); (case side6 => exact HC5.out); rintro e w14 ⟨v482, rfl, ho0, hb⟩; refine ⟨_, rfl, ?_⟩; have n0_ := jA (Kd.R_elder' (zo HO480) (Kd.R_base ho0) hb); have n1_ := jA (jf (Kd.R_new' ho0 (Kd.R_lt (zo HO480))) (jY (zb0 HB))); have n2_ := jA (jV (zb0 HB) hb); clear HO480; clear HB; have HO480 := n0_; have HO483 := n1_; have HB := n2_; clear n0_ n1_ n2_; (try clear hb); (try clear hb2); (try clear hk); (try clear hi); (try clear ho0); obtain ⟨Ao16, co16, eo16⟩ := Kd.R_slice HO483.out; subst eo16) | ((with_reducible refine gate_builtin (b := .append) (xs := #[.tmp 33, .tmp 39]) rfl ?_); at_builtin; refine Kd.R_append_rows (Kd.int .i64) (w0 := w) w.heap.size rfl (.tmp 33) (.tmp 39) 32 2 (.int .i64 0) 8 rfl Try.underlying32 info2 rfl (by decide) (by omega) v479 t478 t481 _ _ _ (fun k_ => some k_ ≠ (.slice Ao16 t481.length co16 : Value).ownBlock) (fun _ => False) rfl rfl ?aO ?aR (fun _ _ h => h) (fun _ h => h.elim) ?aF ?aB ?aS ?aL ?_; (case aR => repeat (first | exact (jJ HO483.out).2.2 | (with_reducible refine jR ?_ _) | (with_reducible refine jQ ?_ _) | (with_reducible refine jS ?_))); (case aB => exact (zb0 HB)); (case aF => exact (fun k_ hk => Kd.fresh' (Kd.R_lt (zo HO483)) k_ hk)); (case aO => exact (by (with_reducible repeat (first | apply jH | apply jG | apply jK)); exact Kd.R_mono HO480.out (fun _ hk => hk.2))); (case aS => exact (jY (zb0 HB))); (case aL => have := LMc11.out; omega); intro v485 w15 ho hb hg hat; rw [← Ny484.out] at ho; have n0_ := jA (Kd.R_after (ok := (fun _ => True)) (zo HO483) hg hat); have n1_ := jA (hb); have n2_ := jA (ho); clear HO483; clear HB; clear HO480; have HO483 := n0_; have HB := n1_; have HO486 := n2_; clear n0_ n1_ n2_; clear ho hb hg hat) | ((with_reducible refine gate_dst (N := 41) rfl ?_); refine Kd.R_lit (Kd.int .i64) _ 2 ?hg (N := 41) ?hd (xs := ([] : List Int)) (inner := []) (ok := fun _ => True) (okp := fun _ => True) ?hr ?hp (fun _ hk => hk) trivial (Below.refl _ _) (Nat.le_refl _) (by simp) ?_; (case hd => rfl); (case hg => rfl); (case hr => first | (go_simp; done) | (go_simp; rfl)); (case hp => exact (Reps.none _ _)); intro v488 w17 ho18 hb hg_ hnew_; clear hg_ hnew_; (first | rw [← Ny487.out] at ho18 | (simp only [Int.reduceToNat] at ho18; rw [← Ny487.out] at ho18)); have n0_ := jA (Kd.R_elder' (zo HO483) (Kd.R_base ho18) hb); have n1_ := jA (Kd.R_elder' (zo HO486) (Kd.R_base ho18) hb); have n2_ := jA (jf (Kd.R_new' (Kd.R_new' ho18 (Kd.R_lt (zo HO483))) (Kd.R_lt (zo HO486))) (jY (zb0 HB))); have n3_ := jA (jV (zb0 HB) hb); clear HO483; clear HO486; clear HB; have HO483 := n0_; have HO486 := n1_; have HO489 := n2_; have HB := n3_; clear n0_ n1_ n2_ n3_; clear hb ho18))
   go_loopg [16, 17] k (fun kq v16 v17 w' => ∃ (x16_1 : List Int) (x17_1 : Int), v17 = .int .i64 x17_1 ∧ Aside0 (spec_WithoutLateCues.l0 kq a1 l5 y484 x16_1 x17_1 = some (r1, r2)) ∧ Aside0 (kq ≤ k) ∧ Aside0 (Kd.R (Kd.int .i64) 2 w' w.heap.size (fun k_ => some k_ ≠ (v16 : Value).ownBlock) v485 y484) ∧ Aside0 (Kd.R (Kd.int .i64) 2 w' w.heap.size (fun k_ => some k_ ≠ (v485 : Value).ownBlock) v16 x16_1) ∧ Aside0 (Below w.heap.size w w'))
   case atStart => exact ⟨(y487), (0), zz, H', ⟨Nat.le_refl _⟩, ⟨by (with_reducible repeat (first | apply jH | apply jG | apply jK)); exact Kd.R_mono HO486.out (fun _ hk => hk.2)⟩, ⟨by (with_reducible repeat (first | apply jH | apply jG | apply jK)); exact Kd.R_mono HO489.out (fun _ hk => hk.2)⟩, ⟨zb0 HB⟩⟩
   case round =>
    clear H'
    try clear c1
    try clear c2
    try clear p2
    try clear c4
    try clear c5
    try clear c7
    try clear c8
    try clear c8b0
    try clear c8b1
    try clear c11
    obtain ⟨x16_1, x17_1, rfl, HA, HK1, HO_15, HO_16, HB⟩ := hrel
    cases gk with
    | zero => exact absurd HA.out (by simp [spec_WithoutLateCues.l0])
    | succ k1 =>
     have H := HA.out
     clear HA
     simp only [spec_WithoutLateCues.l0] at H
     by_cases c19 : x17_1 < a1
     ·rw [if_pos c19] at H
      have c19b0 : decide (x17_1 < a1) = true := jP c19
      clear c19
      replace H := jD.mp H
      obtain ⟨t490, A200, H⟩ := H
      replace H : (if t490 = true then (if x16_1.length < 17592186044416 then (spec_WithoutLateCues.l0 k1 a1 l5 y484 (x16_1 ++ [(-1)]) (wrap64 (x17_1 + 1))) else (none)) else (if 0 ≤ x17_1 then (if x17_1 < (l5.length : Int) then (if x16_1.length < 17592186044416 then (spec_WithoutLateCues.l0 k1 a1 l5 y484 (x16_1 ++ [rd l5 x17_1]) (wrap64 (x17_1 + 1))) else (none)) else (none)) else (none))) = some (r1, r2) := H
      have A20 := jA A200
      clear A200
      by_cases c21 : t490 = true
      ·subst c21
       have H1 : (if x16_1.length < 17592186044416 then (spec_WithoutLateCues.l0 k1 a1 l5 y484 (x16_1 ++ [(-1)]) (wrap64 (x17_1 + 1))) else (none)) = some (r1, r2) := by rw [if_pos rfl] at H; exact H
       clear H
       have H := H1
       clear H1
       by_cases c22 : x16_1.length < 17592186044416
       ·rw [if_pos c22] at H
        have LMc22 := jA c22
        clear c22
        obtain ⟨y491, hy491⟩ : ∃ y_ : List Int, y_ = (x16_1 ++ [(-1)]) := ⟨_, rfl⟩
        replace H : (spec_WithoutLateCues.l0 k1 a1 l5 y484 y491 (wrap64 (x17_1 + 1))) = some (r1, r2) := by first | (rw [hy491]; with_reducible exact H) | (have H2_ := (Option.bind_some _ _).symm.trans H; rw [hy491]; with_reducible exact H2_) | (have H2_ := (Option.bind_some _ _).symm.trans H; with_reducible exact H2_) | with_reducible exact H | (rw [hy491]; exact H) | exact H
        have Ny491 := jA hy491
        clear hy491
        have H' := jA H
        clear H
        obtain ⟨Ao23, co23, eo23⟩ := Kd.R_slice HO_15.out
        subst eo23
        go_wp2_with (first | ((with_reducible refine jN (f := 80) rfl ?_); refine goesL_ (some 49) rfl rfl Try.func80 zr rfl #[.slice Ao23 y484.length co23, .int .i64 x17_1] rfl zm ?_; (with_reducible refine (spec_l01Has.calls k1 _ _ y484 x17_1 true _ ?side1 ?side2 A20.out).mono ?_); (case side1 => repeat (first | exact (jJ HO_15.out).2.2 | (with_reducible refine jR ?_ _) | (with_reducible refine jQ ?_ _) | (with_reducible refine jS ?_))); (case side2 => exact (jJ HO_15.out).2.1); rintro e w' ⟨rfl, ⟨nd, rfl⟩⟩; refine ⟨_, rfl, ?_⟩) | ((with_reducible refine gate_builtin (b := .append) (xs := #[.tmp 50, .tmp 51]) rfl ?_); at_builtin; refine Kd.R_append (Kd.int .i64) (w0 := w) w.heap.size rfl (.tmp 50) (.tmp 51) 32 2 (.int .i64 0) 8 rfl Try.underlying32 info2 rfl (by decide) (by omega) u16 x16_1 (-1) [.int .i64 (-1)] (fun k_ => some k_ ≠ (.slice Ao23 y484.length co23 : Value).ownBlock) (fun _ => False) rfl rfl ?aP (fun _ hk => hk.elim) ?aF ?aO ?aB ?aS ?aL ?_; (case aP => exact rfl); (case aB => exact (zb0 HB)); (case aF => exact (fun k_ hk => Kd.fresh' (Kd.R_lt (zo HO_15)) k_ hk)); (case aO => exact (zo HO_16)); (case aS => exact (jY (zb0 HB))); (case aL => have := LMc22.out; omega); intro v492 w24 ho hb hg hat; rw [← Ny491.out] at ho; have n0_ := jA (Kd.R_after (ok := (fun _ => True)) (by (with_reducible repeat (first | apply jH | apply jG | apply jK)); exact Kd.R_mono HO_15.out (fun _ hk => ⟨trivial, hk⟩)) hg hat); have n1_ := jA (hb); have n2_ := jA (ho); clear HO_15; clear HB; clear HO_16; have HO_15 := n0_; have HB := n1_; have HO493 := n2_; clear n0_ n1_ n2_; clear ho hb hg hat))
        go_roundg k1
        case measure => have := HK1.out; omega
        case rel => exact ⟨(y491), (wrap64 (x17_1 + 1)), zz, H', ⟨by have := HK1.out; omega⟩, ⟨by (with_reducible repeat (first | apply jH | apply jG | apply jK)); exact Kd.R_mono HO_15.out (fun _ hk => hk.2)⟩, ⟨by (with_reducible repeat (first | apply jH | apply jG | apply jK)); exact HO493.out⟩, ⟨zb0 HB⟩⟩
       ·rw [if_neg c22] at H
        exact absurd H (by simp)
      ·replace c21 := Bool.eq_false_iff.mpr c21
       subst c21
       have H1 : (if 0 ≤ x17_1 then (if x17_1 < (l5.length : Int) then (if x16_1.length < 17592186044416 then (spec_WithoutLateCues.l0 k1 a1 l5 y484 (x16_1 ++ [rd l5 x17_1]) (wrap64 (x17_1 + 1))) else (none)) else (none)) else (none)) = some (r1, r2) := by rw [if_neg (show ¬ (false = true) by decide)] at H; exact H
       clear H
       have H := H1
       clear H1
       by_cases c25 : 0 ≤ x17_1
       ·rw [if_pos c25] at H
        have c25b0 : decide (0 ≤ x17_1) = true := jP c25
        clear c25
        by_cases c26 : x17_1 < (l5.length : Int)
        ·rw [if_pos c26] at H
         have c26b0 : decide (x17_1 < (l5.length : Int)) = true := jP c26
         clear c26
         by_cases c27 : x16_1.length < 17592186044416
         ·rw [if_pos c27] at H
          have LMc27 := jA c27
          clear c27
          obtain ⟨y495, hy495⟩ : ∃ y_ : List Int, y_ = (x16_1 ++ [rd l5 x17_1]) := ⟨_, rfl⟩
          replace H : (spec_WithoutLateCues.l0 k1 a1 l5 y484 y495 (wrap64 (x17_1 + 1))) = some (r1, r2) := by first | (rw [hy495]; with_reducible exact H) | (have H2_ := (Option.bind_some _ _).symm.trans H; rw [hy495]; with_reducible exact H2_) | (have H2_ := (Option.bind_some _ _).symm.trans H; with_reducible exact H2_) | with_reducible exact H | (rw [hy495]; exact H) | exact H
          have Ny495 := jA hy495
          clear hy495
          have H' := jA H
          clear H
          obtain ⟨Ao28, co28, eo28⟩ := Kd.R_slice HO_15.out
          subst eo28
          go_wp2_with (first | ((with_reducible refine jN (f := 80) rfl ?_); refine goesL_ (some 49) rfl rfl Try.func80 zr rfl #[.slice Ao28 y484.length co28, .int .i64 x17_1] rfl zm ?_; (with_reducible refine (spec_l01Has.calls k1 _ _ y484 x17_1 false _ ?side1 ?side2 A20.out).mono ?_); (case side1 => repeat (first | exact (jJ HO_15.out).2.2 | (with_reducible refine jR ?_ _) | (with_reducible refine jQ ?_ _) | (with_reducible refine jS ?_))); (case side2 => exact (jJ HO_15.out).2.1); rintro e w' ⟨rfl, ⟨nd, rfl⟩⟩; refine ⟨_, rfl, ?_⟩; have p494 : 0 ≤ (x17_1 : Int) := jB za; have q494 : x17_1 < (l5.length : Int) := jB za; obtain ⟨ad494, e494, hx494_0⟩ := jh HR5.out x17_1 p494 q494; cases e494; replace hx494_0 := (HB.out.cell (jC w _ hx494_0)).trans hx494_0; replace p494 := eq_true p494; replace q494 := eq_true q494) | ((with_reducible refine gate_builtin (b := .append) (xs := #[.tmp 53, .tmp 58]) rfl ?_); at_builtin; refine Kd.R_append (Kd.int .i64) (w0 := w) w.heap.size rfl (.tmp 53) (.tmp 58) 32 2 (.int .i64 0) 8 rfl Try.underlying32 info2 rfl (by decide) (by omega) u16 x16_1 (rd l5 x17_1) [.int .i64 (rd l5 x17_1)] (fun k_ => some k_ ≠ (.slice Ao28 y484.length co28 : Value).ownBlock) (fun _ => False) rfl rfl ?aP (fun _ hk => hk.elim) ?aF ?aO ?aB ?aS ?aL ?_; (case aP => exact rfl); (case aB => exact (zb0 HB)); (case aF => exact (fun k_ hk => Kd.fresh' (Kd.R_lt (zo HO_15)) k_ hk)); (case aO => exact (zo HO_16)); (case aS => exact (jY (zb0 HB))); (case aL => have := LMc27.out; omega); intro v496 w29 ho hb hg hat; rw [← Ny495.out] at ho; have n0_ := jA (Kd.R_after (ok := (fun _ => True)) (by (with_reducible repeat (first | apply jH | apply jG | apply jK)); exact Kd.R_mono HO_15.out (fun _ hk => ⟨trivial, hk⟩)) hg hat); have n1_ := jA (hb); have n2_ := jA (ho); clear HO_15; clear HB; clear HO_16; have HO_15 := n0_; have HB := n1_; have HO497 := n2_; clear n0_ n1_ n2_; clear ho hb hg hat))
          go_roundg k1
          case measure => have := HK1.out; omega
          case rel => exact ⟨(y495), (wrap64 (x17_1 + 1)), zz, H', ⟨by have := HK1.out; omega⟩, ⟨by (with_reducible repeat (first | apply jH | apply jG | apply jK)); exact Kd.R_mono HO_15.out (fun _ hk => hk.2)⟩, ⟨by (with_reducible repeat (first | apply jH | apply jG | apply jK)); exact HO497.out⟩, ⟨zb0 HB⟩⟩
         ·rw [if_neg c27] at H
          exact absurd H (by simp)
        ·rw [if_neg c26] at H
         exact absurd H (by simp)
       ·rw [if_neg c25] at H
        exact absurd H (by simp)
     ·rw [if_neg c19] at H
      have c19b0 : decide (x17_1 < a1) = false := ja c19
      clear c19
      simp only [je, jg] at H
      obtain ⟨rfl, rfl⟩ := H
      go_wp2
      go_ret2
      exact ⟨_, by first | rfl | (simp [errW_none, errW_some] <;> rfl) | (simp [*, errW_none, errW_some] <;> rfl), by (with_reducible repeat (first | apply jH | apply jG | apply jK)); exact Kd.R_mono HO_16.out (fun _ hk => trivial), zb0 HB⟩
  ·rw [if_neg c11] at H
   exact absurd H (by simp)
 ·rw [if_neg c8] at H
  have c8b0 : (t477 == 0) = false := beq_eq_false_iff_ne.mpr c8
  have c8b1 : (t477 != 0) = true := bne_iff_ne.mpr c8
  simp only [je, jg] at H
  obtain ⟨rfl, rfl⟩ := H
  go_enter Try.func48, Try.ntmps48
  go_wp2_with (first | ((with_reducible refine jN (f := 70) rfl ?_); refine goesL_ (some 24) rfl rfl Try.func70 zr rfl #[.slice A0 l0.length c0, .int .i64 a1, .slice A2 l2.length c2, .int .i64 a3, .int .i64 a4, .slice A5 l5.length c5] rfl zm ?_; (with_reducible refine (spec_l23Cues.calls k _ _ l0 a1 _ _ l2 a3 a4 _ _ l5 t477 _ ?side1 ?side2 ?side3 ?side4 ?side5 ?side6 A7.out).mono ?_); (case side1 => repeat (first | exact HR0.out | (with_reducible refine jR ?_ _) | (with_reducible refine jQ ?_ _) | (with_reducible refine jS ?_))); (case side2 => exact HC0.out); (case side3 => repeat (first | exact HR2.out | (with_reducible refine jR ?_ _) | (with_reducible refine jQ ?_ _) | (with_reducible refine jS ?_))); (case side4 => exact HC2.out); (case side5 => repeat (first | exact HR5.out | (with_reducible refine jR ?_ _) | (with_reducible refine jQ ?_ _) | (with_reducible refine jS ?_))); (case side6 => exact HC5.out); rintro e w30 ⟨rfl, hb⟩; refine ⟨_, rfl, ?_⟩; have n0_ := jA (jV (zb0 HB) hb); clear HB; have HB := n0_; clear n0_; (try clear hb); (try clear hb2); (try clear hk); (try clear hi)))
  go_ret2
  exact ⟨_, by first | rfl | (simp [errW_none, errW_some] <;> rfl) | (simp [*, errW_none, errW_some] <;> rfl), by first | exact Kd.R_nil _ _ _ _ _ | exact Kd.N_nil _ _ _ _ _ | exact Kd.V_nil _ _ _ _ _ | exact Kd.Q_nil _ _ _ _ _ | exact Kd.S_nil _ _ _ _ _, zb0 HB⟩

end Go.Proofs.Ytddejaomlnldiaa.PFnStops
