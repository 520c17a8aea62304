/- Functions and contracts that FnDepots reaches (6 of 11). -/
import Derived.Test.YtmhnkhealidjjaaQFnDepotsx4
namespace Go.Proofs.Ytmhnkhealidjjaa.PFnDepots
open Go.RowKit Go.Proofs.YtmhnkhealidjjaaW.PrintWords Go.Proofs.YtmhnkhealidjjaaW.PrintLast Go.Proofs.YtmhnkhealidjjaaW.PrintMore
attribute [local go_sem] max2_int min2_int max_two min_two max_three min_three max_four min_four   -- for this text's walks alone
set_option linter.unusedVariables false
set_option linter.unusedSimpArgs false

/-! ### spec_LimitOf: function 42 -/
mutual
def spec_LimitOf.j0 : Nat → List (S51) → Int → Int → Bool → Option (Int × Int)
 | 0, _, _, _, _ => none
 | k + 1, x0, x1, x2, x24 => if x24 = true then (some (0, 2)) else (if 0 ≤ x2 then (if x2 < (x0.length : Int) then (spec_LimitOf.l0 k x0 x1 x2 100000000 0 ((rd_T51 x0 x2).f0) ((rd_T51 x0 x2).f1) ((rd_T51 x0 x2).f2)) else (none)) else (none))
def spec_LimitOf.l0 : Nat → List (S51) → Int → Int → Int → Int → Int → Int → Int → Option (Int × Int)
 | 0, _, _, _, _, _, _, _, _ => none
 | k + 1, x0, x1, x2, x9, x10, x200000, x200001, x200002 => if x10 < (x0.length : Int) then (if x10 = x2 then (spec_LimitOf.l0 k x0 x1 x2 x9 (wrap64 (x10 + 1)) x200000 x200001 x200002) else (if 0 ≤ x10 then ((spec_l27Close.f k x200000 x200001 0 ((rd_T51 x0 x10).f0) ((rd_T51 x0 x10).f1) ((rd_T51 x0 x10).f2) x1).bind fun t201 => (if t201 = true then (some (0, 4)) else ((spec_l27Square.f x200000 x200001 0 ((rd_T51 x0 x10).f0) ((rd_T51 x0 x10).f1)).bind fun t204 => ((spec_l27Root.f k t204).bind fun t205 => ((spec_l27Grams.f x1 t205).bind fun t206 => (spec_LimitOf.l0 k x0 x1 x2 (mn x9 t206) (wrap64 (x10 + 1)) x200000 x200001 0)))))) else (none))) else (some (x9, 0))
end
def spec_LimitOf.f (k : Nat) (l0 : List (S51)) (a1 : Int) (a2 : Int) : Option (Int × Int) := (spec_AreDepots.f k l0).bind fun t195 => (if t195 = true then ((spec_l01In.f a1 0 500).bind fun t196 => (if t196 = true then ((spec_l01In.f a2 0 (wrap64 ((l0.length : Int) - 1))).bind fun t197 => (spec_LimitOf.j0 k l0 a1 a2 (!t197))) else (spec_LimitOf.j0 k l0 a1 a2 true))) else (some (0, 1)))
theorem spec_LimitOf.mono_l : ∀ k, (∀ y0 y1 y2 y3, LeO (spec_LimitOf.j0 k y0 y1 y2 y3) (spec_LimitOf.j0 (k + 1) y0 y1 y2 y3)) ∧ (∀ y0 y1 y2 y3 y4 y5 y6 y7, LeO (spec_LimitOf.l0 k y0 y1 y2 y3 y4 y5 y6 y7) (spec_LimitOf.l0 (k + 1) y0 y1 y2 y3 y4 y5 y6 y7))
 | 0 => ⟨fun _ _ _ _ r h => by simp [spec_LimitOf.j0] at h, fun _ _ _ _ _ _ _ _ r h => by simp [spec_LimitOf.l0] at h⟩
 | k + 1 => by
  obtain ⟨ih0, ih1⟩ := spec_LimitOf.mono_l k
  refine ⟨?_, ?_⟩
  ·intro y0 y1 y2 y3
   unfold spec_LimitOf.j0
   repeat' first
   | (with_reducible exact ih0 _ _ _ _)
   | (with_reducible exact ih1 _ _ _ _ _ _ _ _)
   | (with_reducible exact spec_AreDepots.mono _ _)
   | (with_reducible exact spec_l27Close.mono _ _ _ _ _ _ _ _)
   | (with_reducible exact spec_l27Root.mono _ _)
   | (with_reducible exact LeO.refl _)
   | (with_reducible exact LeO.none _)
   | (with_reducible refine LeO.ite ?_ ?_)
   | (with_reducible refine LeO.bind ?_ (fun _ => ?_))
   | exact ih0 _ _ _ _
   | exact ih1 _ _ _ _ _ _ _ _
   | exact spec_AreDepots.mono _ _
   | exact spec_l27Close.mono _ _ _ _ _ _ _ _
   | exact spec_l27Root.mono _ _
   | exact LeO.none _
   | refine LeO.ite ?_ ?_
   | refine LeO.bind ?_ (fun _ => ?_)
  ·intro y0 y1 y2 y3 y4 y5 y6 y7
   unfold spec_LimitOf.l0
   repeat' first
   | (with_reducible exact ih0 _ _ _ _)
   | (with_reducible exact ih1 _ _ _ _ _ _ _ _)
   | (with_reducible exact spec_AreDepots.mono _ _)
   | (with_reducible exact spec_l27Close.mono _ _ _ _ _ _ _ _)
   | (with_reducible exact spec_l27Root.mono _ _)
   | (with_reducible exact LeO.refl _)
   | (with_reducible exact LeO.none _)
   | (with_reducible refine LeO.ite ?_ ?_)
   | (with_reducible refine LeO.bind ?_ (fun _ => ?_))
   | exact ih0 _ _ _ _
   | exact ih1 _ _ _ _ _ _ _ _
   | exact spec_AreDepots.mono _ _
   | exact spec_l27Close.mono _ _ _ _ _ _ _ _
   | exact spec_l27Root.mono _ _
   | exact LeO.none _
   | refine LeO.ite ?_ ?_
   | refine LeO.bind ?_ (fun _ => ?_)
theorem spec_LimitOf.mono : ∀ a0 a1 a2 k, LeO (spec_LimitOf.f k a0 a1 a2) (spec_LimitOf.f (k + 1) a0 a1 a2) := by
 intro a0 a1 a2 k
 obtain ⟨ih0, ih1⟩ := spec_LimitOf.mono_l k
 unfold spec_LimitOf.f
 repeat' first
   | (with_reducible exact ih0 _ _ _ _)
   | (with_reducible exact ih1 _ _ _ _ _ _ _ _)
   | (with_reducible exact spec_AreDepots.mono _ _)
   | (with_reducible exact spec_l27Close.mono _ _ _ _ _ _ _ _)
   | (with_reducible exact spec_l27Root.mono _ _)
   | (with_reducible exact LeO.refl _)
   | (with_reducible exact LeO.none _)
   | (with_reducible refine LeO.ite ?_ ?_)
   | (with_reducible refine LeO.bind ?_ (fun _ => ?_))
   | exact ih0 _ _ _ _
   | exact ih1 _ _ _ _ _ _ _ _
   | exact spec_AreDepots.mono _ _
   | exact spec_l27Close.mono _ _ _ _ _ _ _ _
   | exact spec_l27Root.mono _ _
   | exact LeO.none _
   | refine LeO.ite ?_ ?_
   | refine LeO.bind ?_ (fun _ => ?_)
def spec_LimitOf.T14 : Bool × List (List Nat × List Nat) := (true, [([], []), ([], []), ([], []), ([], []), ([], []), ([3, 4], [3, 4]), ([5], [5]), ([6], [6]), ([], []), ([], []), ([8, 9], [8, 9]), ([10], [10]), ([11], [11]), ([2, 7, 12], [2, 7, 12]), ([13, 13], [13]), ([1, 14, 14], [1, 14]), ([0, 15], [0, 15]), ([16, 15, 0, 1, 2, 3, 4, 5, 6, 7, 8, 9, 10, 11, 12, 13, 14, 15, 16], [0, 16])])
def spec_LimitOf.B14 : List Nat := [0, 0, 0, 0, 0, 24, 56, 120, 0, 0, 768, 1792, 3840, 8188, 16380, 32766, 65535, 131071]
theorem spec_LimitOf.tab14 : rtab .any (opsOf Try.f42 14) = spec_LimitOf.T14 := by kernel_rfl
theorem spec_LimitOf.bits14 : waitsOk spec_LimitOf.T14.2 spec_LimitOf.B14 = true := by kernel_rfl
set_option maxHeartbeats 8000000 in
set_option maxRecDepth 100000 in
theorem spec_LimitOf.calls (k : Nat) (A0 : Option Addr) (c0 : Nat) (l0 : List (S51)) (a1 : Int) (a2 : Int) (r1 : Int) (r2 : Int) (w : World) (hr0 : Kd.C k51 w A0 l0.length l0) (hc0 : l0.length ≤ c0) (h : spec_LimitOf.f k l0 a1 a2 = some (r1, r2)) :
  Calls Try.prog 42 #[.slice A0 l0.length c0, .int .i64 a1, .int .i64 a2] w fun e w' => e = .returned (.tuple #[.int .i64 r1, .int .i64 r2]) ∧ Below w.heap.size w w' := by
 have hu51 := Try.underlying51
 have HR0 := jA hr0
 have HC0 := jA hc0
 clear hr0 hc0
 have HB := jA (Below.refl w.heap.size w)
 have H : ((spec_AreDepots.f k l0).bind fun t195 => (if t195 = true then ((spec_l01In.f a1 0 500).bind fun t196 => (if t196 = true then ((spec_l01In.f a2 0 (wrap64 ((l0.length : Int) - 1))).bind fun t197 => (spec_LimitOf.j0 k l0 a1 a2 (!t197))) else (spec_LimitOf.j0 k l0 a1 a2 true))) else (some (0, 1)))) = some (r1, r2) := h
 clear h
 replace H := jD.mp H
 obtain ⟨t195, A40, H⟩ := H
 replace H : (if t195 = true then ((spec_l01In.f a1 0 500).bind fun t196 => (if t196 = true then ((spec_l01In.f a2 0 (wrap64 ((l0.length : Int) - 1))).bind fun t197 => (spec_LimitOf.j0 k l0 a1 a2 (!t197))) else (spec_LimitOf.j0 k l0 a1 a2 true))) else (some (0, 1))) = some (r1, r2) := H
 have A4 := jA A40
 clear A40
 by_cases c5 : t195 = true
 ·subst c5
  have H1 : ((spec_l01In.f a1 0 500).bind fun t196 => (if t196 = true then ((spec_l01In.f a2 0 (wrap64 ((l0.length : Int) - 1))).bind fun t197 => (spec_LimitOf.j0 k l0 a1 a2 (!t197))) else (spec_LimitOf.j0 k l0 a1 a2 true))) = some (r1, r2) := by rw [if_pos rfl] at H; exact H
  clear H
  have H := H1
  clear H1
  have HC6 := jA H
  clear H
  go_enter Try.func42, Try.ntmps42
  go_upto_region 3 with (first | ((with_reducible refine jH (f := 20) rfl ?_); refine goesL_ (some 12) rfl rfl Try.func20 zr rfl #[.slice A0 l0.length c0] rfl zm ?_; (with_reducible refine (spec_AreDepots.calls k _ _ l0 true _ ?side1 ?side2 A4.out).mono ?_); (case side1 => repeat (first | exact HR0.out | (with_reducible refine jO ?_ _) | (with_reducible refine jN ?_ _) | (with_reducible refine jS ?_))); (case side2 => exact HC0.out); rintro e w' ⟨rfl, ⟨nd, rfl⟩⟩; refine ⟨_, rfl, ?_⟩))
  (try simp only [Act.put, jE, jI, jJ])
  go_cut [24] (fun v24 wc => ∃ (kq : Nat) (x24_5 : Bool), v24 = .bool x24_5 ∧ Aside0 (spec_LimitOf.j0 kq l0 a1 a2 x24_5 = some (r1, r2)) ∧ Aside0 (kq ≤ k) ∧ Aside0 (Below w.heap.size w wc))
  case first =>
   have H := HC6.out
   clear HC6
   replace H := jD.mp H
   obtain ⟨t196, A70, H⟩ := H
   replace H : (if t196 = true then ((spec_l01In.f a2 0 (wrap64 ((l0.length : Int) - 1))).bind fun t197 => (spec_LimitOf.j0 k l0 a1 a2 (!t197))) else (spec_LimitOf.j0 k l0 a1 a2 true)) = some (r1, r2) := H
   have A7 := jA A70
   clear A70
   by_cases c8 : t196 = true
   ·subst c8
    have H1 : ((spec_l01In.f a2 0 (wrap64 ((l0.length : Int) - 1))).bind fun t197 => (spec_LimitOf.j0 k l0 a1 a2 (!t197))) = some (r1, r2) := by rw [if_pos rfl] at H; exact H
    clear H
    have H := H1
    clear H1
    replace H := jD.mp H
    obtain ⟨t197, A90, H⟩ := H
    replace H : (spec_LimitOf.j0 k l0 a1 a2 (!t197)) = some (r1, r2) := H
    have A9 := jA A90
    clear A90
    have H' := jA H
    clear H
    go_wp2_with (first | ((with_reducible refine jH (f := 54) rfl ?_); refine goesL_ (some 15) rfl rfl Try.func54 zr rfl #[.int .i64 a1, .int .i64 0, .int .i64 500] rfl zm ?_; (with_reducible refine (spec_l01In.calls a1 0 500 true _ A7.out).mono ?_); rintro e w' ⟨rfl, ⟨nd, rfl⟩⟩; refine ⟨_, rfl, ?_⟩) | (go_at_call 54; (with_reducible refine (spec_l01In.calls a2 0 (wrap64 ((l0.length : Int) - 1)) t197 _ A9.out).mono ?_); rintro e w' ⟨rfl, ⟨nd, rfl⟩⟩))
    go_meet
    case rel => exact ⟨_, (!t197), zz, H', ⟨by first | omega | exact Nat.le_refl _⟩, ⟨zb0 HB⟩⟩
   ·replace c8 := Bool.eq_false_iff.mpr c8
    subst c8
    have H1 : (spec_LimitOf.j0 k l0 a1 a2 true) = some (r1, r2) := by rw [if_neg (show ¬ (false = true) by decide)] at H; exact H
    clear H
    have H := H1
    clear H1
    have H' := jA H
    clear H
    go_wp2_with (first | ((with_reducible refine jH (f := 54) rfl ?_); refine goesL_ (some 15) rfl rfl Try.func54 zr rfl #[.int .i64 a1, .int .i64 0, .int .i64 500] rfl zm ?_; (with_reducible refine (spec_l01In.calls a1 0 500 false _ A7.out).mono ?_); rintro e w' ⟨rfl, ⟨nd, rfl⟩⟩; refine ⟨_, rfl, ?_⟩))
    go_meet
    case rel => exact ⟨_, (true), zz, H', ⟨by first | omega | exact Nat.le_refl _⟩, ⟨zb0 HB⟩⟩
  case rest =>
   clear HC6
   try clear c2
   try clear p2
   try clear c4
   try clear c5
   try clear p6
   try clear c8
   obtain ⟨kq, x24_5, rfl, HA, HJ5, HB⟩ := hcut
   cases kq with
   | zero => exact absurd HA.out (by simp [spec_LimitOf.j0])
   | succ kj5 =>
    have H := HA.out
    clear HA
    simp only [spec_LimitOf.j0] at H
    by_cases c10 : x24_5 = true
    ·subst c10
     have H1 : (some (0, 2)) = some (r1, r2) := by rw [if_pos rfl] at H; exact H
     clear H
     have H := H1
     clear H1
     simp only [jU, jY] at H
     obtain ⟨rfl, rfl⟩ := H
     go_wp2
     go_ret2
     exact ⟨by first | rfl | (simp [errW_none, errW_some] <;> rfl) | (simp [*, errW_none, errW_some] <;> rfl), zb0 HB⟩
    ·replace c10 := Bool.eq_false_iff.mpr c10
     subst c10
     have H1 : (if 0 ≤ a2 then (if a2 < (l0.length : Int) then (spec_LimitOf.l0 kj5 l0 a1 a2 100000000 0 ((rd_T51 l0 a2).f0) ((rd_T51 l0 a2).f1) ((rd_T51 l0 a2).f2)) else (none)) else (none)) = some (r1, r2) := by rw [if_neg (show ¬ (false = true) by decide)] at H; exact H
     clear H
     have H := H1
     clear H1
     by_cases c11 : 0 ≤ a2
     ·rw [if_pos c11] at H
      have c11b0 : decide (0 ≤ a2) = true := jG c11
      clear c11
      by_cases c12 : a2 < (l0.length : Int)
      ·rw [if_pos c12] at H
       have c12b0 : decide (a2 < (l0.length : Int)) = true := jG c12
       clear c12
       have H' := jA H
       clear H
       have p198 : 0 ≤ (a2 : Int) := jB za
       have q198 : a2 < (l0.length : Int) := jB za
       obtain ⟨ad198, e198, hx198_0, hx198_1, hx198_2⟩ := at_T51 HR0.out a2 p198 q198
       cases e198
       replace hx198_0 := (HB.out.cell (jC w _ hx198_0)).trans hx198_0
       replace hx198_1 := (HB.out.cell (jC w _ hx198_1)).trans hx198_1
       replace hx198_2 := (HB.out.cell (jC w _ hx198_2)).trans hx198_2
       replace p198 := eq_true p198
       replace q198 := eq_true q198
       go_wp2_with (first | ((with_reducible refine gate_dst (N := 8) rfl ?_); (try (refine gate_guard (by rfl) ?_; dsimp only)); refine box_event ?hg (N := 8) ?hd (cs := #[.int .i64 0, .int .i64 0, .int .i64 0]) (t := 51) ?hr ?_; (case hd => rfl); (case hg => rfl); (case hr => first | (go_simp; done) | (go_simp; rfl)); intro gb199 hg w13 hbox hb; have n0_ := jA (jT (zb0 HB) hb); have n1_ := jA (hbox); have n2_ := jA ((by rw [hg]; exact (jW (zb0 HB)) : w.heap.size ≤ gb199)); have n3_ := jA ((by rw [hg]; exact (jW (zb0 HB)) : w.heap.size ≤ gb199)); clear HB; have HB := n0_; have BK199 := n1_; have GW199 := n2_; have GE199 := n3_; clear n0_ n1_ n2_ n3_; clear hb hbox hg; have hcz14_0 : w13.cell? ⟨gb199, 0, none⟩ = some (.int .i64 0) := (jR BK199.out 0).trans rfl; have hcz14_1 : w13.cell? ⟨gb199, 1, none⟩ = some (.int .i64 0) := (jR BK199.out 1).trans rfl; have hcz14_2 : w13.cell? ⟨gb199, 2, none⟩ = some (.int .i64 0) := (jR BK199.out 2).trans rfl; have hfz14_0 := jV BK199.out 0; have hfz14_1 := jV BK199.out 1; have hfz14_2 := jV BK199.out 2))
       go_loopg [9, 10] kj5 (fun kq v9 v10 w' => ∃ (x9_2 : Int) (x10_2 : Int) (x200002_2 : Int), v9 = .int .i64 x9_2 ∧ v10 = .int .i64 x10_2 ∧ Aside0 (spec_LimitOf.l0 kq l0 a1 a2 x9_2 x10_2 ((rd_T51 l0 a2).f0) ((rd_T51 l0 a2).f1) x200002_2 = some (r1, r2)) ∧ Aside0 (kq ≤ kj5) ∧ Aside0 (w'.heap[gb199]? = some (.cells #[.int .i64 ((rd_T51 l0 a2).f0), .int .i64 ((rd_T51 l0 a2).f1), .int .i64 x200002_2] 51 (0, 0))) ∧ Aside0 (Below w.heap.size w w'))
       case atStart => exact ⟨(100000000), (0), ((rd_T51 l0 a2).f2), zz, zz, H', ⟨Nat.le_refl _⟩, ⟨by (with_reducible repeat (first | refine jc ?_ _ | refine blk_drew ?_ | refine jd ?_ _)); refine blk_put (cs := #[.int .i64 ((rd_T51 l0 a2).f0), .int .i64 ((rd_T51 l0 a2).f1), .int .i64 0]) ?_ 2 _ rfl; (with_reducible repeat (first | refine jc ?_ _ | refine blk_drew ?_ | refine jd ?_ _)); refine blk_put (cs := #[.int .i64 ((rd_T51 l0 a2).f0), .int .i64 0, .int .i64 0]) ?_ 1 _ rfl; (with_reducible repeat (first | refine jc ?_ _ | refine blk_drew ?_ | refine jd ?_ _)); refine blk_put (cs := #[.int .i64 0, .int .i64 0, .int .i64 0]) ?_ 0 _ rfl; (with_reducible repeat (first | refine jc ?_ _ | refine blk_drew ?_ | refine jd ?_ _)); exact BK199.out⟩, ⟨zb1 HB GE199⟩⟩
       case round =>
        clear H'
        try clear c1
        try clear p1
        try clear q1
        try clear hx1
        try clear c2
        try clear p2
        try clear c4
        try clear c5
        try clear p6
        try clear c8
        try clear c10
        try clear c11
        try clear c11b0
        try clear c12
        try clear c12b0
        try clear hcz14_0
        try clear hcz14_1
        try clear hcz14_2
        try clear hfz14_0
        try clear hfz14_1
        try clear hfz14_2
        try clear hx198_0
        try clear hx198_1
        try clear hx198_2
        try clear p198
        try clear p2
        try clear p6
        try clear q198
        obtain ⟨x9_2, x10_2, x200002_2, rfl, rfl, HA, HK2, BK199, HB⟩ := hrel
        cases gk with
        | zero => exact absurd HA.out (by simp [spec_LimitOf.l0])
        | succ k2 =>
         have H := HA.out
         clear HA
         simp only [spec_LimitOf.l0] at H
         by_cases c15 : x10_2 < (l0.length : Int)
         ·rw [if_pos c15] at H
          have c15b0 : decide (x10_2 < (l0.length : Int)) = true := jG c15
          clear c15
          by_cases c16 : x10_2 = a2
          ·rw [if_pos c16] at H
           have c16b0 : (x10_2 == a2) = true := beq_iff_eq.mpr c16
           have c16b1 : (x10_2 != a2) = false := bne_eq_false_iff_eq.mpr c16
           clear c16
           have H' := jA H
           clear H
           go_wp2
           go_roundg k2
           case measure => have := HJ5.out; have := HK2.out; omega
           case rel => exact ⟨(x9_2), (wrap64 (x10_2 + 1)), (x200002_2), zz, zz, H', ⟨by have := HJ5.out; have := HK2.out; omega⟩, ⟨by (with_reducible repeat (first | refine jc ?_ _ | refine blk_drew ?_ | refine jd ?_ _)); exact BK199.out⟩, ⟨zb1 HB GE199⟩⟩
          ·rw [if_neg c16] at H
           have c16b0 : (x10_2 == a2) = false := beq_eq_false_iff_ne.mpr c16
           have c16b1 : (x10_2 != a2) = true := bne_iff_ne.mpr c16
           by_cases c17 : 0 ≤ x10_2
           ·rw [if_pos c17] at H
            have c17b0 : decide (0 ≤ x10_2) = true := jG c17
            clear c17
            replace H := jD.mp H
            obtain ⟨t201, A180, H⟩ := H
            replace H : (if t201 = true then (some (0, 4)) else ((spec_l27Square.f ((rd_T51 l0 a2).f0) ((rd_T51 l0 a2).f1) 0 ((rd_T51 l0 x10_2).f0) ((rd_T51 l0 x10_2).f1)).bind fun t204 => ((spec_l27Root.f k2 t204).bind fun t205 => ((spec_l27Grams.f a1 t205).bind fun t206 => (spec_LimitOf.l0 k2 l0 a1 a2 (mn x9_2 t206) (wrap64 (x10_2 + 1)) ((rd_T51 l0 a2).f0) ((rd_T51 l0 a2).f1) 0))))) = some (r1, r2) := H
            have A18 := jA A180
            clear A180
            by_cases c19 : t201 = true
            ·subst c19
             have H1 : (some (0, 4)) = some (r1, r2) := by rw [if_pos rfl] at H; exact H
             clear H
             have H := H1
             clear H1
             simp only [jU, jY] at H
             obtain ⟨rfl, rfl⟩ := H
             have hcz20_0 : wr.cell? ⟨gb199, 0, none⟩ = some (.int .i64 ((rd_T51 l0 a2).f0)) := (jR BK199.out 0).trans rfl
             have hcz20_1 : wr.cell? ⟨gb199, 1, none⟩ = some (.int .i64 ((rd_T51 l0 a2).f1)) := (jR BK199.out 1).trans rfl
             have hcz20_2 : wr.cell? ⟨gb199, 2, none⟩ = some (.int .i64 x200002_2) := (jR BK199.out 2).trans rfl
             have hfz20_0 := jV BK199.out 0
             have hfz20_1 := jV BK199.out 1
             have hfz20_2 := jV BK199.out 2
             try go_wp2
             have n0_ : Aside0 ((wr.setCell ⟨gb199, 2, none⟩ (.int .i64 0)).heap[gb199]? = some (.cells #[.int .i64 ((rd_T51 l0 a2).f0), .int .i64 ((rd_T51 l0 a2).f1), .int .i64 0] 51 (0, 0))) := ⟨by (with_reducible repeat (first | refine jc ?_ _ | refine blk_drew ?_ | refine jd ?_ _)); refine blk_put (cs := #[.int .i64 ((rd_T51 l0 a2).f0), .int .i64 ((rd_T51 l0 a2).f1), .int .i64 x200002_2]) ?_ 2 _ rfl; (with_reducible repeat (first | refine jc ?_ _ | refine blk_drew ?_ | refine jd ?_ _)); exact BK199.out⟩
             have n1_ : Aside0 (Below w.heap.size w (wr.setCell ⟨gb199, 2, none⟩ (.int .i64 0))) := ⟨zb1 HB GE199⟩
             (try clear BK199)
             (try clear HB)
             generalize (wr.setCell ⟨gb199, 2, none⟩ (.int .i64 0)) = w21 at n0_ n1_ ⊢
             have BK199 := n0_
             have HB := n1_
             clear n0_ n1_
             have n0_ := jA (blk_drew BK199.out)
             have n1_ := jA (jL HB.out)
             clear BK199
             clear HB
             have BK199 := n0_
             have HB := n1_
             clear n0_ n1_
             have p200 : 0 ≤ (x10_2 : Int) := jB za
             have q200 : x10_2 < (l0.length : Int) := jB za
             obtain ⟨ad200, e200, hx200_0, hx200_1, hx200_2⟩ := at_T51 HR0.out x10_2 p200 q200
             have hw200_2 := hx200_2
             have hw200_1 := hx200_1
             have hw200_0 := hx200_0
             obtain rfl : ad198 = ad200 := (by injection e200)
             replace hx200_0 := (HB.out.cell (jC w _ hx200_0)).trans hx200_0
             replace hx200_1 := (HB.out.cell (jC w _ hx200_1)).trans hx200_1
             replace hx200_2 := (HB.out.cell (jC w _ hx200_2)).trans hx200_2
             replace p200 := eq_true p200
             replace q200 := eq_true q200
             refine start_ (n := 7) (S := fun w' => w'.cell? ⟨gb199, 0, none⟩ = some (.int .i64 ((rd_T51 l0 a2).f0)) ∧ w'.cell? ⟨gb199, 1, none⟩ = some (.int .i64 ((rd_T51 l0 a2).f1)) ∧ w'.cell? ⟨gb199, 2, none⟩ = some (.int .i64 0) ∧ w'.cell? (ad198.add ((x10_2).toNat * 3)) = some (.int .i64 ((rd_T51 l0 x10_2).f0)) ∧ w'.cell? ⟨(ad198.add ((x10_2).toNat * 3)).block, (ad198.add ((x10_2).toNat * 3)).off + 1, none⟩ = some (.int .i64 ((rd_T51 l0 x10_2).f1)) ∧ w'.cell? ⟨(ad198.add ((x10_2).toNat * 3)).block, (ad198.add ((x10_2).toNat * 3)).off + 2, none⟩ = some (.int .i64 ((rd_T51 l0 x10_2).f2))) (ds := []) m7_0 zr rfl rfl ⟨(jR BK199.out 0).trans rfl, (jR BK199.out 1).trans rfl, (jR BK199.out 2).trans rfl, ((HB.out.cell (jC w _ hw200_0)).trans hw200_0), ((HB.out.cell (jC w _ hw200_1)).trans hw200_1), ((HB.out.cell (jC w _ hw200_2)).trans hw200_2)⟩ (fun hHeld => ?_)
             generalize w21.drew = w22 at BK199 HB hx200_0 hx200_1 hx200_2 hHeld ⊢
             refine pure_ (i := 1) (N := some 40) (v := ?_) (a' := ?_) m7_20 rfl rfl zr (fun _ _ _ h => h) (Or.inl ⟨by rfl, ?_⟩) ?_ ?_
             rotate_left
             ·intro w'
              go_simp
              with_reducible rfl
             rotate_left
             ·simp only [Act.put, jE, jI, jJ, i64_w, i32_w]
              rfl
             refine pure_ (i := 2) (N := some 41) (v := ?_) (a' := ?_) m7_30 rfl rfl zr (fun _ _ _ h => h) (Or.inl ⟨by rfl, ?_⟩) ?_ ?_
             rotate_left
             ·intro w'
              go_simp
              with_reducible rfl
             rotate_left
             ·simp only [Act.put, jE, jI, jJ, i64_w, i32_w]
              rfl
             refine pure_ (i := 3) (N := some 42) (v := ?_) (a' := ?_) m7_38 rfl rfl zr (fun _ _ _ h => h) (Or.inl ⟨by rfl, ?_⟩) ?_ ?_
             rotate_left
             ·intro w'
              go_simp
              with_reducible rfl
             rotate_left
             ·simp only [Act.put, jE, jI, jJ, i64_w, i32_w]
              rfl
             refine pure_ (i := 5) (N := some 44) (v := ?_) (a' := ?_) m7_3a rfl rfl zr (fun _ _ _ h => h) (Or.inl ⟨by rfl, ?_⟩) ?_ ?_
             rotate_left
             ·intro w'
              go_simp
              with_reducible rfl
             rotate_left
             ·simp only [Act.put, jE, jI, jJ, i64_w, i32_w]
              rfl
             refine take_ (i := 0) (N := some 39) (v := ?_) (a' := ?_) m7_7a rfl rfl zr (fun _ _ _ h => h) (Or.inl ⟨by rfl, ?_⟩) hHeld ?_ ?_
             rotate_left
             ·rintro w' ⟨s0, s1, s2, s3, s4, s5⟩
              go_simp
              with_reducible rfl
             rotate_left
             ·simp only [Act.put, jE, jI, jJ, i64_w, i32_w]
              rfl
             refine take_ (i := 4) (N := some 43) (v := ?_) (a' := ?_) m7_7e rfl rfl zr (fun _ _ _ h => h) (Or.inl ⟨by rfl, ?_⟩) hHeld ?_ ?_
             rotate_left
             ·rintro w' ⟨s0, s1, s2, s3, s4, s5⟩
              go_simp
              with_reducible rfl
             rotate_left
             ·simp only [Act.put, jE, jI, jJ, i64_w, i32_w]
              rfl
             refine one_ (i := 6) (N := some 45) m7_7f rfl rfl zr (by decide) (fun K hK => ?_)
             refine goes_ Try.func78 zr rfl #[.agg #[.int .i64 ((rd_T51 l0 a2).f0), .int .i64 ((rd_T51 l0 a2).f1), .int .i64 0], .agg #[.int .i64 ((rd_T51 l0 x10_2).f0), .int .i64 ((rd_T51 l0 x10_2).f1), .int .i64 ((rd_T51 l0 x10_2).f2)], .int .i64 a1] (by rfl) rfl rfl zm ?_
             with_reducible refine (spec_l27Close.calls k2 ((rd_T51 l0 a2).f0) ((rd_T51 l0 a2).f1) 0 ((rd_T51 l0 x10_2).f0) ((rd_T51 l0 x10_2).f1) ((rd_T51 l0 x10_2).f2) a1 true _ A18.out).mono ?_
             rintro e w23 ⟨rfl, hb⟩
             refine ⟨_, rfl, ?_⟩
             have n0_ := jA (blk_below (g := gb199) (o := .cells #[.int .i64 ((rd_T51 l0 a2).f0), .int .i64 ((rd_T51 l0 a2).f1), .int .i64 0] 51 (0, 0)) (zk BK199) hb)
             have n1_ := jA (jT (zb1 HB GE199) hb)
             clear BK199
             clear HB
             have BK199 := n0_
             have HB := n1_
             clear n0_ n1_
             (try clear hb)
             (try clear hb2)
             (try clear hk)
             (try clear hi)
             refine hK.out _ _ ⟨(jR BK199.out 0).trans rfl, (jR BK199.out 1).trans rfl, (jR BK199.out 2).trans rfl, ((HB.out.cell (jC w _ hw200_0)).trans hw200_0), ((HB.out.cell (jC w _ hw200_1)).trans hw200_1), ((HB.out.cell (jC w _ hw200_2)).trans hw200_2)⟩ (fun hHeld => ?_)
             clear hK K
             refine norm_ (a' := ?_) ?_ ?_
             rotate_left
             ·show Act.put _ (some 45) _ = _
              simp only [Act.put, jE, jI, jJ, i64_w, i32_w]
              rfl
             refine done_ zr ?_
             try go_wp2
             go_ret2
             exact ⟨by first | rfl | (simp [errW_none, errW_some] <;> rfl) | (simp [*, errW_none, errW_some] <;> rfl), zb1 HB GE199⟩
            ·replace c19 := Bool.eq_false_iff.mpr c19
             subst c19
             have H1 : ((spec_l27Square.f ((rd_T51 l0 a2).f0) ((rd_T51 l0 a2).f1) 0 ((rd_T51 l0 x10_2).f0) ((rd_T51 l0 x10_2).f1)).bind fun t204 => ((spec_l27Root.f k2 t204).bind fun t205 => ((spec_l27Grams.f a1 t205).bind fun t206 => (spec_LimitOf.l0 k2 l0 a1 a2 (mn x9_2 t206) (wrap64 (x10_2 + 1)) ((rd_T51 l0 a2).f0) ((rd_T51 l0 a2).f1) 0)))) = some (r1, r2) := by rw [if_neg (show ¬ (false = true) by decide)] at H; exact H
             clear H
             have H := H1
             clear H1
             replace H := jD.mp H
             obtain ⟨t204, A240, H⟩ := H
             replace H : ((spec_l27Root.f k2 t204).bind fun t205 => ((spec_l27Grams.f a1 t205).bind fun t206 => (spec_LimitOf.l0 k2 l0 a1 a2 (mn x9_2 t206) (wrap64 (x10_2 + 1)) ((rd_T51 l0 a2).f0) ((rd_T51 l0 a2).f1) 0))) = some (r1, r2) := H
             have A24 := jA A240
             clear A240
             replace H := jD.mp H
             obtain ⟨t205, A250, H⟩ := H
             replace H : ((spec_l27Grams.f a1 t205).bind fun t206 => (spec_LimitOf.l0 k2 l0 a1 a2 (mn x9_2 t206) (wrap64 (x10_2 + 1)) ((rd_T51 l0 a2).f0) ((rd_T51 l0 a2).f1) 0)) = some (r1, r2) := H
             have A25 := jA A250
             clear A250
             replace H := jD.mp H
             obtain ⟨t206, A260, H⟩ := H
             replace H : (spec_LimitOf.l0 k2 l0 a1 a2 (mn x9_2 t206) (wrap64 (x10_2 + 1)) ((rd_T51 l0 a2).f0) ((rd_T51 l0 a2).f1) 0) = some (r1, r2) := H
             have A26 := jA A260
             clear A260
             obtain ⟨ji27, hji27⟩ : ∃ j_ : Int, (mn x9_2 t206) = j_ := ⟨_, rfl⟩
             replace H : (spec_LimitOf.l0 k2 l0 a1 a2 ji27 (wrap64 (x10_2 + 1)) ((rd_T51 l0 a2).f0) ((rd_T51 l0 a2).f1) 0) = some (r1, r2) := by first | (rw [hji27] at H; exact H) | (simp only [hji27] at H ⊢; exact H)
             (try rw [hji27] at A18)
             (try rw [hji27] at A24)
             (try rw [hji27] at A25)
             (try rw [hji27] at A26)
             have hji27_ : (if t206 < x9_2 then t206 else x9_2) = ji27 := hji27
             have H' := jA H
             clear H
             have hcz28_0 : wr.cell? ⟨gb199, 0, none⟩ = some (.int .i64 ((rd_T51 l0 a2).f0)) := (jR BK199.out 0).trans rfl
             have hcz28_1 : wr.cell? ⟨gb199, 1, none⟩ = some (.int .i64 ((rd_T51 l0 a2).f1)) := (jR BK199.out 1).trans rfl
             have hcz28_2 : wr.cell? ⟨gb199, 2, none⟩ = some (.int .i64 x200002_2) := (jR BK199.out 2).trans rfl
             have hfz28_0 := jV BK199.out 0
             have hfz28_1 := jV BK199.out 1
             have hfz28_2 := jV BK199.out 2
             try go_wp2
             have n0_ : Aside0 ((wr.setCell ⟨gb199, 2, none⟩ (.int .i64 0)).heap[gb199]? = some (.cells #[.int .i64 ((rd_T51 l0 a2).f0), .int .i64 ((rd_T51 l0 a2).f1), .int .i64 0] 51 (0, 0))) := ⟨by (with_reducible repeat (first | refine jc ?_ _ | refine blk_drew ?_ | refine jd ?_ _)); refine blk_put (cs := #[.int .i64 ((rd_T51 l0 a2).f0), .int .i64 ((rd_T51 l0 a2).f1), .int .i64 x200002_2]) ?_ 2 _ rfl; (with_reducible repeat (first | refine jc ?_ _ | refine blk_drew ?_ | refine jd ?_ _)); exact BK199.out⟩
             have n1_ : Aside0 (Below w.heap.size w (wr.setCell ⟨gb199, 2, none⟩ (.int .i64 0))) := ⟨zb1 HB GE199⟩
             (try clear BK199)
             (try clear HB)
             generalize (wr.setCell ⟨gb199, 2, none⟩ (.int .i64 0)) = w29 at n0_ n1_ ⊢
             have BK199 := n0_
             have HB := n1_
             clear n0_ n1_
             have n0_ := jA (blk_drew BK199.out)
             have n1_ := jA (jL HB.out)
             clear BK199
             clear HB
             have BK199 := n0_
             have HB := n1_
             clear n0_ n1_
             have p200 : 0 ≤ (x10_2 : Int) := jB za
             have q200 : x10_2 < (l0.length : Int) := jB za
             obtain ⟨ad200, e200, hx200_0, hx200_1, hx200_2⟩ := at_T51 HR0.out x10_2 p200 q200
             have hw200_2 := hx200_2
             have hw200_1 := hx200_1
             have hw200_0 := hx200_0
             obtain rfl : ad198 = ad200 := (by injection e200)
             replace hx200_0 := (HB.out.cell (jC w _ hx200_0)).trans hx200_0
             replace hx200_1 := (HB.out.cell (jC w _ hx200_1)).trans hx200_1
             replace hx200_2 := (HB.out.cell (jC w _ hx200_2)).trans hx200_2
             replace p200 := eq_true p200
             replace q200 := eq_true q200
             refine start_ (n := 7) (S := fun w' => w'.cell? ⟨gb199, 0, none⟩ = some (.int .i64 ((rd_T51 l0 a2).f0)) ∧ w'.cell? ⟨gb199, 1, none⟩ = some (.int .i64 ((rd_T51 l0 a2).f1)) ∧ w'.cell? ⟨gb199, 2, none⟩ = some (.int .i64 0) ∧ w'.cell? (ad198.add ((x10_2).toNat * 3)) = some (.int .i64 ((rd_T51 l0 x10_2).f0)) ∧ w'.cell? ⟨(ad198.add ((x10_2).toNat * 3)).block, (ad198.add ((x10_2).toNat * 3)).off + 1, none⟩ = some (.int .i64 ((rd_T51 l0 x10_2).f1)) ∧ w'.cell? ⟨(ad198.add ((x10_2).toNat * 3)).block, (ad198.add ((x10_2).toNat * 3)).off + 2, none⟩ = some (.int .i64 ((rd_T51 l0 x10_2).f2))) (ds := []) m7_0 zr rfl rfl ⟨(jR BK199.out 0).trans rfl, (jR BK199.out 1).trans rfl, (jR BK199.out 2).trans rfl, ((HB.out.cell (jC w _ hw200_0)).trans hw200_0), ((HB.out.cell (jC w _ hw200_1)).trans hw200_1), ((HB.out.cell (jC w _ hw200_2)).trans hw200_2)⟩ (fun hHeld => ?_)
             generalize w29.drew = w30 at BK199 HB hx200_0 hx200_1 hx200_2 hHeld ⊢
             refine pure_ (i := 1) (N := some 40) (v := ?_) (a' := ?_) m7_20 rfl rfl zr (fun _ _ _ h => h) (Or.inl ⟨by rfl, ?_⟩) ?_ ?_
             rotate_left
             ·intro w'
              go_simp
              with_reducible rfl
             rotate_left
             ·simp only [Act.put, jE, jI, jJ, i64_w, i32_w]
              rfl
             refine pure_ (i := 2) (N := some 41) (v := ?_) (a' := ?_) m7_30 rfl rfl zr (fun _ _ _ h => h) (Or.inl ⟨by rfl, ?_⟩) ?_ ?_
             rotate_left
             ·intro w'
              go_simp
              with_reducible rfl
             rotate_left
             ·simp only [Act.put, jE, jI, jJ, i64_w, i32_w]
              rfl
             refine pure_ (i := 3) (N := some 42) (v := ?_) (a' := ?_) m7_38 rfl rfl zr (fun _ _ _ h => h) (Or.inl ⟨by rfl, ?_⟩) ?_ ?_
             rotate_left
             ·intro w'
              go_simp
              with_reducible rfl
             rotate_left
             ·simp only [Act.put, jE, jI, jJ, i64_w, i32_w]
              rfl
             refine pure_ (i := 5) (N := some 44) (v := ?_) (a' := ?_) m7_3a rfl rfl zr (fun _ _ _ h => h) (Or.inl ⟨by rfl, ?_⟩) ?_ ?_
             rotate_left
             ·intro w'
              go_simp
              with_reducible rfl
             rotate_left
             ·simp only [Act.put, jE, jI, jJ, i64_w, i32_w]
              rfl
             refine take_ (i := 0) (N := some 39) (v := ?_) (a' := ?_) m7_7a rfl rfl zr (fun _ _ _ h => h) (Or.inl ⟨by rfl, ?_⟩) hHeld ?_ ?_
             rotate_left
             ·rintro w' ⟨s0, s1, s2, s3, s4, s5⟩
              go_simp
              with_reducible rfl
             rotate_left
             ·simp only [Act.put, jE, jI, jJ, i64_w, i32_w]
              rfl
             refine take_ (i := 4) (N := some 43) (v := ?_) (a' := ?_) m7_7e rfl rfl zr (fun _ _ _ h => h) (Or.inl ⟨by rfl, ?_⟩) hHeld ?_ ?_
             rotate_left
             ·rintro w' ⟨s0, s1, s2, s3, s4, s5⟩
              go_simp
              with_reducible rfl
             rotate_left
             ·simp only [Act.put, jE, jI, jJ, i64_w, i32_w]
              rfl
             refine one_ (i := 6) (N := some 45) m7_7f rfl rfl zr (by decide) (fun K hK => ?_)
             refine goes_ Try.func78 zr rfl #[.agg #[.int .i64 ((rd_T51 l0 a2).f0), .int .i64 ((rd_T51 l0 a2).f1), .int .i64 0], .agg #[.int .i64 ((rd_T51 l0 x10_2).f0), .int .i64 ((rd_T51 l0 x10_2).f1), .int .i64 ((rd_T51 l0 x10_2).f2)], .int .i64 a1] (by rfl) rfl rfl zm ?_
             with_reducible refine (spec_l27Close.calls k2 ((rd_T51 l0 a2).f0) ((rd_T51 l0 a2).f1) 0 ((rd_T51 l0 x10_2).f0) ((rd_T51 l0 x10_2).f1) ((rd_T51 l0 x10_2).f2) a1 false _ A18.out).mono ?_
             rintro e w31 ⟨rfl, hb⟩
             refine ⟨_, rfl, ?_⟩
             have n0_ := jA (blk_below (g := gb199) (o := .cells #[.int .i64 ((rd_T51 l0 a2).f0), .int .i64 ((rd_T51 l0 a2).f1), .int .i64 0] 51 (0, 0)) (zk BK199) hb)
             have n1_ := jA (jT (zb1 HB GE199) hb)
             clear BK199
             clear HB
             have BK199 := n0_
             have HB := n1_
             clear n0_ n1_
             (try clear hb)
             (try clear hb2)
             (try clear hk)
             (try clear hi)
             refine hK.out _ _ ⟨(jR BK199.out 0).trans rfl, (jR BK199.out 1).trans rfl, (jR BK199.out 2).trans rfl, ((HB.out.cell (jC w _ hw200_0)).trans hw200_0), ((HB.out.cell (jC w _ hw200_1)).trans hw200_1), ((HB.out.cell (jC w _ hw200_2)).trans hw200_2)⟩ (fun hHeld => ?_)
             clear hK K
             refine norm_ (a' := ?_) ?_ ?_
             rotate_left
             ·show Act.put _ (some 45) _ = _
              simp only [Act.put, jE, jI, jJ, i64_w, i32_w]
              rfl
             refine done_ zr ?_
             try go_wp2
             have n0_ := jA (blk_drew BK199.out)
             have n1_ := jA (jL HB.out)
             clear BK199
             clear HB
             have BK199 := n0_
             have HB := n1_
             clear n0_ n1_
             have p202 : 0 ≤ (x10_2 : Int) := jB za
             have q202 : x10_2 < (l0.length : Int) := jB za
             obtain ⟨ad202, e202, hx202_0, hx202_1, hx202_2⟩ := at_T51 HR0.out x10_2 p202 q202
             have hw202_2 := hx202_2
             have hw202_1 := hx202_1
             have hw202_0 := hx202_0
             obtain rfl : ad198 = ad202 := (by injection e202)
             replace hx202_0 := (HB.out.cell (jC w _ hx202_0)).trans hx202_0
             replace hx202_1 := (HB.out.cell (jC w _ hx202_1)).trans hx202_1
             replace hx202_2 := (HB.out.cell (jC w _ hx202_2)).trans hx202_2
             replace p202 := eq_true p202
             replace q202 := eq_true q202
             have p203 : 0 ≤ (x10_2 : Int) := jB za
             have q203 : x10_2 < (l0.length : Int) := jB za
             obtain ⟨ad203, e203, hx203_0, hx203_1, hx203_2⟩ := at_T51 HR0.out x10_2 p203 q203
             have hw203_2 := hx203_2
             have hw203_1 := hx203_1
             have hw203_0 := hx203_0
             obtain rfl : ad198 = ad203 := (by injection e203)
             replace hx203_0 := (HB.out.cell (jC w _ hx203_0)).trans hx203_0
             replace hx203_1 := (HB.out.cell (jC w _ hx203_1)).trans hx203_1
             replace hx203_2 := (HB.out.cell (jC w _ hx203_2)).trans hx203_2
             replace p203 := eq_true p203
             replace q203 := eq_true q203
             refine start_ (n := 18) (S := fun w' => w'.cell? ⟨gb199, 0, none⟩ = some (.int .i64 ((rd_T51 l0 a2).f0)) ∧ w'.cell? ⟨gb199, 1, none⟩ = some (.int .i64 ((rd_T51 l0 a2).f1)) ∧ w'.cell? ⟨gb199, 2, none⟩ = some (.int .i64 0) ∧ w'.cell? (ad198.add ((x10_2).toNat * 3)) = some (.int .i64 ((rd_T51 l0 x10_2).f0)) ∧ w'.cell? ⟨(ad198.add ((x10_2).toNat * 3)).block, (ad198.add ((x10_2).toNat * 3)).off + 1, none⟩ = some (.int .i64 ((rd_T51 l0 x10_2).f1)) ∧ w'.cell? ⟨(ad198.add ((x10_2).toNat * 3)).block, (ad198.add ((x10_2).toNat * 3)).off + 2, none⟩ = some (.int .i64 ((rd_T51 l0 x10_2).f2)) ∧ w'.cell? (ad198.add ((x10_2).toNat * 3)) = some (.int .i64 ((rd_T51 l0 x10_2).f0)) ∧ w'.cell? ⟨(ad198.add ((x10_2).toNat * 3)).block, (ad198.add ((x10_2).toNat * 3)).off + 1, none⟩ = some (.int .i64 ((rd_T51 l0 x10_2).f1)) ∧ w'.cell? ⟨(ad198.add ((x10_2).toNat * 3)).block, (ad198.add ((x10_2).toNat * 3)).off + 2, none⟩ = some (.int .i64 ((rd_T51 l0 x10_2).f2))) (ds := []) #[false, false, false, false, false, false, false, false, false, false, false, false, false, false, false, false, false, false] zr rfl rfl ⟨(jR BK199.out 0).trans rfl, (jR BK199.out 1).trans rfl, (jR BK199.out 2).trans rfl, ((HB.out.cell (jC w _ hw202_0)).trans hw202_0), ((HB.out.cell (jC w _ hw202_1)).trans hw202_1), ((HB.out.cell (jC w _ hw202_2)).trans hw202_2), ((HB.out.cell (jC w _ hw203_0)).trans hw203_0), ((HB.out.cell (jC w _ hw203_1)).trans hw203_1), ((HB.out.cell (jC w _ hw203_2)).trans hw203_2)⟩ (fun hHeld => ?_); refine with_tabW spec_LimitOf.tab14 spec_LimitOf.bits14 (fun HT_ HW_ => ?_)
             generalize w31.drew = w32 at BK199 HB hx202_0 hx202_1 hx202_2 hx203_0 hx203_1 hx203_2 hHeld ⊢
             refine zp HT_ 0 46 #[true, false, false, false, false, false, false, false, false, false, false, false, false, false, false, false, false, false] ?_
             refine zp HT_ 1 47 #[true, true, false, false, false, false, false, false, false, false, false, false, false, false, false, false, false, false] ?_
             refine zp HT_ 3 49 #[true, true, false, true, false, false, false, false, false, false, false, false, false, false, false, false, false, false] ?_
             refine zp HT_ 4 50 #[true, true, false, true, true, false, false, false, false, false, false, false, false, false, false, false, false, false] ?_
             refine zp HT_ 5 51 #[true, true, false, true, true, true, false, false, false, false, false, false, false, false, false, false, false, false] ?_
             refine zp HT_ 6 52 #[true, true, false, true, true, true, true, false, false, false, false, false, false, false, false, false, false, false] ?_
             refine zp HT_ 8 54 #[true, true, false, true, true, true, true, false, true, false, false, false, false, false, false, false, false, false] ?_
             refine zp HT_ 9 55 #[true, true, false, true, true, true, true, false, true, true, false, false, false, false, false, false, false, false] ?_
             refine zp HT_ 10 56 #[true, true, false, true, true, true, true, false, true, true, true, false, false, false, false, false, false, false] ?_
             refine zp HT_ 11 57 #[true, true, false, true, true, true, true, false, true, true, true, true, false, false, false, false, false, false] ?_
             refine zt9 HT_ HW_ hHeld 2 48 #[true, true, true, true, true, true, true, false, true, true, true, true, false, false, false, false, false, false] ?_
             refine zt9 HT_ HW_ hHeld 7 53 #[true, true, true, true, true, true, true, true, true, true, true, true, false, false, false, false, false, false] ?_
             refine zt9 HT_ HW_ hHeld 12 58 #[true, true, true, true, true, true, true, true, true, true, true, true, true, false, false, false, false, false] ?_
             refine one_ (i := 13) (N := some 59) #[true, true, true, true, true, true, true, true, true, true, true, true, true, true, false, false, false, false] rfl rfl (one_of HT_.out zr) (by decide) (fun K hK => ?_)
             refine goes_ Try.func71 zr rfl #[.agg #[.int .i64 ((rd_T51 l0 a2).f0), .int .i64 ((rd_T51 l0 a2).f1), .int .i64 0], .int .i64 ((rd_T51 l0 x10_2).f0), .int .i64 ((rd_T51 l0 x10_2).f1)] (by rfl) rfl rfl zm ?_
             with_reducible refine (spec_l27Square.calls ((rd_T51 l0 a2).f0) ((rd_T51 l0 a2).f1) 0 ((rd_T51 l0 x10_2).f0) ((rd_T51 l0 x10_2).f1) t204 _ A24.out).mono ?_
             rintro e w33 ⟨rfl, hb⟩
             refine ⟨_, rfl, ?_⟩
             have n0_ := jA (blk_below (g := gb199) (o := .cells #[.int .i64 ((rd_T51 l0 a2).f0), .int .i64 ((rd_T51 l0 a2).f1), .int .i64 0] 51 (0, 0)) (zk BK199) hb)
             have n1_ := jA (jT (zb1 HB GE199) hb)
             clear BK199
             clear HB
             have BK199 := n0_
             have HB := n1_
             clear n0_ n1_
             (try clear hb)
             (try clear hb2)
             (try clear hk)
             (try clear hi)
             refine hK.out _ _ ⟨(jR BK199.out 0).trans rfl, (jR BK199.out 1).trans rfl, (jR BK199.out 2).trans rfl, ((HB.out.cell (jC w _ hw202_0)).trans hw202_0), ((HB.out.cell (jC w _ hw202_1)).trans hw202_1), ((HB.out.cell (jC w _ hw202_2)).trans hw202_2), ((HB.out.cell (jC w _ hw203_0)).trans hw203_0), ((HB.out.cell (jC w _ hw203_1)).trans hw203_1), ((HB.out.cell (jC w _ hw203_2)).trans hw203_2)⟩ (fun hHeld => ?_)
             clear hK K
             refine norm_ (a' := ?_) ?_ ?_
             rotate_left
             ·show Act.put _ (some 59) _ = _
              simp only [Act.put, jE, jI, jJ, i64_w, i32_w]
              rfl
             refine one_ (i := 14) (N := some 60) #[true, true, true, true, true, true, true, true, true, true, true, true, true, true, true, false, false, false] rfl rfl (one_of HT_.out zr) (by decide) (fun K hK => ?_)
             refine goes_ Try.func79 zr rfl #[.int .i64 t204] (by rfl) rfl rfl zm ?_
             with_reducible refine (spec_l27Root.calls k2 t204 t205 _ A25.out).mono ?_
             rintro e w' ⟨rfl, ⟨nd, rfl⟩⟩
             refine ⟨_, rfl, ?_⟩
             refine hK.out _ _ ⟨(jR BK199.out 0).trans rfl, (jR BK199.out 1).trans rfl, (jR BK199.out 2).trans rfl, ((HB.out.cell (jC w _ hw202_0)).trans hw202_0), ((HB.out.cell (jC w _ hw202_1)).trans hw202_1), ((HB.out.cell (jC w _ hw202_2)).trans hw202_2), ((HB.out.cell (jC w _ hw203_0)).trans hw203_0), ((HB.out.cell (jC w _ hw203_1)).trans hw203_1), ((HB.out.cell (jC w _ hw203_2)).trans hw203_2)⟩ (fun hHeld => ?_)
             clear hK K
             refine norm_ (a' := ?_) ?_ ?_
             rotate_left
             ·show Act.put _ (some 60) _ = _
              simp only [Act.put, jE, jI, jJ, i64_w, i32_w]
              rfl
             refine one_ (i := 15) (N := some 61) #[true, true, true, true, true, true, true, true, true, true, true, true, true, true, true, true, false, false] rfl rfl (one_of HT_.out zr) (by decide) (fun K hK => ?_)
             refine goes_ Try.func55 zr rfl #[.int .i64 a1, .int .i64 t205] (by rfl) rfl rfl zm ?_
             with_reducible refine (spec_l27Grams.calls a1 t205 t206 _ A26.out).mono ?_
             rintro e w34 ⟨rfl, hb⟩
             refine ⟨_, rfl, ?_⟩
             have n0_ := jA (blk_below (g := gb199) (o := .cells #[.int .i64 ((rd_T51 l0 a2).f0), .int .i64 ((rd_T51 l0 a2).f1), .int .i64 0] 51 (0, 0)) (zk BK199) hb)
             have n1_ := jA (jT (zb1 HB GE199) hb)
             clear BK199
             clear HB
             have BK199 := n0_
             have HB := n1_
             clear n0_ n1_
             (try clear hb)
             (try clear hb2)
             (try clear hk)
             (try clear hi)
             refine hK.out _ _ ⟨(jR BK199.out 0).trans rfl, (jR BK199.out 1).trans rfl, (jR BK199.out 2).trans rfl, ((HB.out.cell (jC w _ hw202_0)).trans hw202_0), ((HB.out.cell (jC w _ hw202_1)).trans hw202_1), ((HB.out.cell (jC w _ hw202_2)).trans hw202_2), ((HB.out.cell (jC w _ hw203_0)).trans hw203_0), ((HB.out.cell (jC w _ hw203_1)).trans hw203_1), ((HB.out.cell (jC w _ hw203_2)).trans hw203_2)⟩ (fun hHeld => ?_)
             clear hK K
             refine norm_ (a' := ?_) ?_ ?_
             rotate_left
             ·show Act.put _ (some 61) _ = _
              simp only [Act.put, jE, jI, jJ, i64_w, i32_w]
              rfl
             refine zp HT_ 16 62 #[true, true, true, true, true, true, true, true, true, true, true, true, true, true, true, true, true, false] ?_
             refine zp HT_ 17 9 #[true, true, true, true, true, true, true, true, true, true, true, true, true, true, true, true, true, true] ?_
             refine done_ (done_of HT_.out zr) ?_
             try go_wp2
             go_roundg k2
             case measure => have := HJ5.out; have := HK2.out; omega
             case rel => exact ⟨(ji27), (wrap64 (x10_2 + 1)), (0), (by first | rfl | (simp; done) | (simp only [← hji27] <;> (first | rfl | simp)) | (simp [*]; done)), zz, H', ⟨by have := HJ5.out; have := HK2.out; omega⟩, ⟨by (with_reducible repeat (first | refine jc ?_ _ | refine blk_drew ?_ | refine jd ?_ _)); exact BK199.out⟩, ⟨zb1 HB GE199⟩⟩
           ·rw [if_neg c17] at H
            exact absurd H (by simp)
         ·rw [if_neg c15] at H
          have c15b0 : decide (x10_2 < (l0.length : Int)) = false := jb c15
          clear c15
          simp only [jU, jY] at H
          obtain ⟨rfl, rfl⟩ := H
          go_wp2
          go_ret2
          exact ⟨by first | rfl | (simp [errW_none, errW_some] <;> rfl) | (simp [*, errW_none, errW_some] <;> rfl), zb1 HB GE199⟩
      ·rw [if_neg c12] at H
       exact absurd H (by simp)
     ·rw [if_neg c11] at H
      exact absurd H (by simp)
 ·replace c5 := Bool.eq_false_iff.mpr c5
  subst c5
  have H1 : (some (0, 1)) = some (r1, r2) := by rw [if_neg (show ¬ (false = true) by decide)] at H; exact H
  clear H
  have H := H1
  clear H1
  simp only [jU, jY] at H
  obtain ⟨rfl, rfl⟩ := H
  go_enter Try.func42, Try.ntmps42
  go_wp2_with (first | ((with_reducible refine jH (f := 20) rfl ?_); refine goesL_ (some 12) rfl rfl Try.func20 zr rfl #[.slice A0 l0.length c0] rfl zm ?_; (with_reducible refine (spec_AreDepots.calls k _ _ l0 false _ ?side1 ?side2 A4.out).mono ?_); (case side1 => repeat (first | exact HR0.out | (with_reducible refine jO ?_ _) | (with_reducible refine jN ?_ _) | (with_reducible refine jS ?_))); (case side2 => exact HC0.out); rintro e w' ⟨rfl, ⟨nd, rfl⟩⟩; refine ⟨_, rfl, ?_⟩))
  go_ret2
  exact ⟨by first | rfl | (simp [errW_none, errW_some] <;> rfl) | (simp [*, errW_none, errW_some] <;> rfl), zb0 HB⟩

/-! ### impl_isFactor: function 56 -/
def impl_isFactor.f (a0 : Int) : Option (Bool) := (impl_within.f a0 0 500).bind fun t207 => (some t207)
set_option maxHeartbeats 8000000 in
set_option maxRecDepth 100000 in
theorem impl_isFactor.calls (a0 : Int) (r : Bool) (w : World) (h : impl_isFactor.f a0 = some r) :
  Calls Try.prog 56 #[.int .i64 a0] w fun e w' => e = .returned (.bool r) ∧ Drawn0 w w' := by
 have H : ((impl_within.f a0 0 500).bind fun t207 => (some t207)) = some r := h
 clear h
 replace H := jD.mp H
 obtain ⟨t207, A20, H⟩ := H
 replace H : (some t207) = some r := H
 have A2 := jA A20
 clear A20
 obtain rfl := jM H
 go_enter Try.func56, Try.ntmps56
 go_wp2_with (first | ((with_reducible refine jH (f := 57) rfl ?_); refine goesL_ (some 4) rfl rfl Try.func57 zr rfl #[.int .i64 a0, .int .i64 0, .int .i64 500] rfl zm ?_; (with_reducible refine (impl_within.calls a0 0 500 t207 _ A2.out).mono ?_); rintro e w' ⟨rfl, ⟨nd, rfl⟩⟩; refine ⟨_, rfl, ?_⟩))
 go_ret
 exact ⟨by first | rfl | (simp; done) | (simp [*]; done), by repeat (first | exact Drawn0.refl _ | apply Drawn0.step)⟩

/-! ### impl_floorDiv: function 80 -/
def impl_floorDiv.f (a0 : Int) (a1 : Int) : Option (Int) := if a1 = 0 then (none) else (if (Int.tmod a0 a1) < 0 then (some (wrap64 ((wrap64 (Int.tdiv a0 a1)) - 1))) else (some (wrap64 (Int.tdiv a0 a1))))
set_option maxHeartbeats 8000000 in
set_option maxRecDepth 100000 in
theorem impl_floorDiv.calls (a0 : Int) (a1 : Int) (r : Int) (w : World) (h : impl_floorDiv.f a0 a1 = some r) :
  Calls Try.prog 80 #[.int .i64 a0, .int .i64 a1] w fun e w' => e = .returned (.int .i64 r) ∧ Drawn0 w w' := by
 have H : (if a1 = 0 then (none) else (if (Int.tmod a0 a1) < 0 then (some (wrap64 ((wrap64 (Int.tdiv a0 a1)) - 1))) else (some (wrap64 (Int.tdiv a0 a1))))) = some r := h
 clear h
 by_cases c3 : a1 = 0
 ·rw [if_pos c3] at H
  exact absurd H (by simp)
 ·rw [if_neg c3] at H
  have c3b0 : (a1 == 0) = false := beq_eq_false_iff_ne.mpr c3
  have c3b1 : (a1 != 0) = true := bne_iff_ne.mpr c3
  by_cases c4 : (Int.tmod a0 a1) < 0
  ·rw [if_pos c4] at H
   have c4b0 : decide ((Int.tmod a0 a1) < 0) = true := jG c4
   clear c4
   obtain rfl := jM H
   go_enter Try.func80, Try.ntmps80
   go_wp2
   go_ret
   exact ⟨by first | rfl | (simp; done) | (simp [*]; done), by repeat (first | exact Drawn0.refl _ | apply Drawn0.step)⟩
  ·rw [if_neg c4] at H
   have c4b0 : decide ((Int.tmod a0 a1) < 0) = false := jb c4
   clear c4
   obtain rfl := jM H
   go_enter Try.func80, Try.ntmps80
   go_wp2
   go_ret
   exact ⟨by first | rfl | (simp; done) | (simp [*]; done), by repeat (first | exact Drawn0.refl _ | apply Drawn0.step)⟩

end Go.Proofs.Ytmhnkhealidjjaa.PFnDepots
