/- Functions and contracts that FnCueStates reaches (2 of 11). -/
import Derived.Test.YthnpffomoaeeoaaQFnCueStatesx0
namespace Go.Proofs.Ythnpffomoaeeoaa.PFnCueStates
open Go.RowKit Go.Proofs.YthnpffomoaeeoaaW.PrintWords Go.Proofs.YthnpffomoaeeoaaW.PrintLast Go.Proofs.YthnpffomoaeeoaaW.PrintMore
attribute [local go_sem] max2_int min2_int max_two min_two max_three min_three max_four min_four   -- for this text's walks alone
set_option linter.unusedVariables false
set_option linter.unusedSimpArgs false

/-! ### spec_AreTries: function 14 -/
mutual
def spec_AreTries.l0 : Nat → List (S36) → Int → Option (Bool)
 | 0, _, _ => none
 | k + 1, x0, x3 => if x3 < (x0.length : Int) then (if 0 ≤ x3 then ((spec_l01In.f ((rd_T36 x0 x3).f0) 0 19).bind fun t112 => (if t112 = true then ((spec_l01In.f ((rd_T36 x0 x3).f1) 0 100000).bind fun t113 => (if t113 = true then (if x3 > 0 then (if 0 ≤ (wrap64 (x3 - 1)) then (if (wrap64 (x3 - 1)) < (x0.length : Int) then (spec_AreTries.j1 k x0 x3 (decide (((rd_T36 x0 (wrap64 (x3 - 1))).f1) > ((rd_T36 x0 x3).f1))) ((rd_T36 x0 x3).f0) ((rd_T36 x0 x3).f1) ((rd_T36 x0 x3).f2)) else (none)) else (none)) else (spec_AreTries.j1 k x0 x3 false ((rd_T36 x0 x3).f0) ((rd_T36 x0 x3).f1) ((rd_T36 x0 x3).f2))) else (spec_AreTries.j1 k x0 x3 true ((rd_T36 x0 x3).f0) ((rd_T36 x0 x3).f1) ((rd_T36 x0 x3).f2)))) else (spec_AreTries.j1 k x0 x3 true ((rd_T36 x0 x3).f0) ((rd_T36 x0 x3).f1) ((rd_T36 x0 x3).f2)))) else (none)) else (some (decide ((x0.length : Int) ≤ 40)))
def spec_AreTries.j1 : Nat → List (S36) → Int → Bool → Int → Int → Bool → Option (Bool)
 | 0, _, _, _, _, _, _ => none
 | k + 1, x0, x3, x42, x112000, x112001, x112002 => if x42 = true then (some false) else (if 0 ≤ x3 then (if x3 ≤ (x0.length : Int) then ((spec_l24Of.f k (x0.take (x3 : Int).toNat) x112000).bind fun bt119 => (if bt119.2 = true then (some false) else (if (bt119.1.length : Int) = 3 then (some false) else (if (bt119.1.length : Int) > 0 then (if 0 ≤ (wrap64 ((bt119.1.length : Int) - 1)) then (if (wrap64 ((bt119.1.length : Int) - 1)) < (bt119.1.length : Int) then (if x112001 < (wrap64 ((rd bt119.1 (wrap64 ((bt119.1.length : Int) - 1))) + 50)) then (some false) else (spec_AreTries.l0 k x0 (wrap64 (x3 + 1)))) else (none)) else (none)) else (spec_AreTries.l0 k x0 (wrap64 (x3 + 1))))))) else (none)) else (none))
end
def spec_AreTries.f (k : Nat) (l0 : List (S36)) : Option (Bool) := spec_AreTries.l0 k l0 0
theorem spec_AreTries.mono_l : ∀ k, (∀ y0 y1, LeO (spec_AreTries.l0 k y0 y1) (spec_AreTries.l0 (k + 1) y0 y1)) ∧ (∀ y0 y1 y2 y3 y4 y5, LeO (spec_AreTries.j1 k y0 y1 y2 y3 y4 y5) (spec_AreTries.j1 (k + 1) y0 y1 y2 y3 y4 y5))
 | 0 => ⟨fun _ _ r h => by simp [spec_AreTries.l0] at h, fun _ _ _ _ _ _ r h => by simp [spec_AreTries.j1] at h⟩
 | k + 1 => by
  obtain ⟨ih0, ih1⟩ := spec_AreTries.mono_l k
  refine ⟨?_, ?_⟩
  ·intro y0 y1
   unfold spec_AreTries.l0
   repeat' first
   | (with_reducible exact ih0 _ _)
   | (with_reducible exact ih1 _ _ _ _ _ _)
   | (with_reducible exact spec_l24Of.mono _ _ _)
   | (with_reducible exact LeO.refl _)
   | (with_reducible exact LeO.none _)
   | (with_reducible refine LeO.ite ?_ ?_)
   | (with_reducible refine LeO.bind ?_ (fun _ => ?_))
   | exact ih0 _ _
   | exact ih1 _ _ _ _ _ _
   | exact spec_l24Of.mono _ _ _
   | exact LeO.none _
   | refine LeO.ite ?_ ?_
   | refine LeO.bind ?_ (fun _ => ?_)
  ·intro y0 y1 y2 y3 y4 y5
   unfold spec_AreTries.j1
   repeat' first
   | (with_reducible exact ih0 _ _)
   | (with_reducible exact ih1 _ _ _ _ _ _)
   | (with_reducible exact spec_l24Of.mono _ _ _)
   | (with_reducible exact LeO.refl _)
   | (with_reducible exact LeO.none _)
   | (with_reducible refine LeO.ite ?_ ?_)
   | (with_reducible refine LeO.bind ?_ (fun _ => ?_))
   | exact ih0 _ _
   | exact ih1 _ _ _ _ _ _
   | exact spec_l24Of.mono _ _ _
   | exact LeO.none _
   | refine LeO.ite ?_ ?_
   | refine LeO.bind ?_ (fun _ => ?_)
theorem spec_AreTries.mono : ∀ a0 k, LeO (spec_AreTries.f k a0) (spec_AreTries.f (k + 1) a0) := by
 intro a0 k
 obtain ⟨ih0, ih1⟩ := spec_AreTries.mono_l k
 unfold spec_AreTries.f
 repeat' first
   | (with_reducible exact ih0 _ _)
   | (with_reducible exact ih1 _ _ _ _ _ _)
   | (with_reducible exact spec_l24Of.mono _ _ _)
   | (with_reducible exact LeO.refl _)
   | (with_reducible exact LeO.none _)
   | (with_reducible refine LeO.ite ?_ ?_)
   | (with_reducible refine LeO.bind ?_ (fun _ => ?_))
   | exact ih0 _ _
   | exact ih1 _ _ _ _ _ _
   | exact spec_l24Of.mono _ _ _
   | exact LeO.none _
   | refine LeO.ite ?_ ?_
   | refine LeO.bind ?_ (fun _ => ?_)
def spec_AreTries.T5 : Bool × List (List Nat × List Nat) := (true, [([], []), ([0], [0]), ([1], [1]), ([2], [2]), ([3, 2], [3]), ([4], [4]), ([5, 4], [4, 5]), ([6, 4, 4], [4, 6]), ([7, 4], [4, 7]), ([4, 8], [4, 8]), ([9, 7], [9]), ([10], [10]), ([11, 10], [10, 11]), ([12, 10, 10], [10, 12]), ([13], [13]), ([13], [13]), ([15, 13], [13, 15]), ([14, 16, 13], [13, 14, 16]), ([17, 13], [13, 17]), ([18, 13], [13, 18]), ([13], [13]), ([20, 13], [13, 20]), ([19, 21, 13], [13, 19, 21]), ([13, 22, 10], [10, 13, 22]), ([10, 23], [10, 23])])
def spec_AreTries.B5 : List Nat := [0, 1, 3, 7, 15, 31, 63, 127, 255, 511, 1023, 2047, 4095, 8191, 16383, 16383, 49151, 131071, 262143, 524287, 16383, 1064959, 4194303, 8388607, 16777215]
theorem spec_AreTries.tab5 : rtab .any (opsOf Try.f14 5) = spec_AreTries.T5 := by kernel_rfl
theorem spec_AreTries.bits5 : waitsOk spec_AreTries.T5.2 spec_AreTries.B5 = true := by kernel_rfl
def spec_AreTries.T7 : Bool × List (List Nat × List Nat) := (true, [([], []), ([], []), ([0, 1], [0, 1]), ([], []), ([3], [3]), ([2, 4], [2, 4]), ([5], [5]), ([6], [6]), ([6], [6]), ([7, 5, 0, 1, 2, 3, 4, 5, 6, 7], [7]), ([8, 9, 0, 1, 2, 3, 4, 5, 6, 7, 8, 9], [8])])
def spec_AreTries.B7 : List Nat := [0, 0, 3, 0, 8, 31, 63, 127, 127, 255, 1023]
theorem spec_AreTries.tab7 : rtab .any (opsOf Try.f14 7) = spec_AreTries.T7 := by kernel_rfl
theorem spec_AreTries.bits7 : waitsOk spec_AreTries.T7.2 spec_AreTries.B7 = true := by kernel_rfl
def spec_AreTries.T9 : Bool × List (List Nat × List Nat) := (true, [([], []), ([0], [0]), ([1], [1]), ([2, 1], [1, 2]), ([1, 3], [1, 3]), ([4, 1], [4]), ([5], [5]), ([6, 5], [5, 6]), ([7, 5, 5], [5, 7]), ([8], [8]), ([9, 8], [8, 9]), ([8], [8]), ([8], [8]), ([12, 8], [8, 12]), ([11, 13, 8], [8, 11, 13]), ([14, 8], [8, 14]), ([15, 8], [8, 15]), ([10, 16, 8], [8, 10, 16]), ([8, 17, 5], [5, 8, 17]), ([5, 18], [5, 18])])
def spec_AreTries.B9 : List Nat := [0, 1, 3, 7, 15, 31, 63, 127, 255, 511, 1023, 511, 511, 4607, 14847, 31231, 63999, 131071, 262143, 524287]
theorem spec_AreTries.tab9 : rtab .any (opsOf Try.f14 9) = spec_AreTries.T9 := by kernel_rfl
theorem spec_AreTries.bits9 : waitsOk spec_AreTries.T9.2 spec_AreTries.B9 = true := by kernel_rfl
set_option maxHeartbeats 8000000 in
set_option maxRecDepth 100000 in
theorem spec_AreTries.calls (k : Nat) (A0 : Option Addr) (c0 : Nat) (l0 : List (S36)) (r : Bool) (w : World) (hr0 : Kd.C k36 w A0 l0.length l0) (hc0 : l0.length ≤ c0) (h : spec_AreTries.f k l0 = some r) :
  Calls Try.prog 14 #[.slice A0 l0.length c0] w fun e w' => e = .returned (.bool r) ∧ Below w.heap.size w w' := by
 have hu36 := Try.underlying36
 have HR0 := jA hr0
 have HC0 := jA hc0
 clear hr0 hc0
 have HB := jA (Below.refl w.heap.size w)
 have H : (spec_AreTries.l0 k l0 0) = some r := h
 clear h
 have H' := jA H
 clear H
 go_enter Try.func14, Try.ntmps14
 go_wp2
 go_loopg [3] k (fun kq v3 w' => ∃ (x3_1 : Int), v3 = .int .i64 x3_1 ∧ Aside0 (spec_AreTries.l0 kq l0 x3_1 = some r) ∧ Aside0 (kq ≤ k) ∧ Aside0 (Below w.heap.size w w'))
 case atStart => exact ⟨(0), zz, H', ⟨Nat.le_refl _⟩, ⟨zb0 HB⟩⟩
 case round =>
  clear H'
  try clear c1
  obtain ⟨x3_1, rfl, HA, HK1, HB⟩ := hrel
  cases gk with
  | zero => exact absurd HA.out (by simp [spec_AreTries.l0])
  | succ k1 =>
   have H := HA.out
   clear HA
   simp only [spec_AreTries.l0] at H
   by_cases c2 : x3_1 < (l0.length : Int)
   ·rw [if_pos c2] at H
    have c2b0 : decide (x3_1 < (l0.length : Int)) = true := jN c2
    clear c2
    by_cases c3 : 0 ≤ x3_1
    ·rw [if_pos c3] at H
     have c3b0 : decide (0 ≤ x3_1) = true := jN c3
     clear c3
     have HC4 := jA H
     clear H
     have p110 : 0 ≤ (x3_1 : Int) := jC za
     have q110 : x3_1 < (l0.length : Int) := jC za
     obtain ⟨ad110, e110, hx110_0, hx110_1, hx110_2⟩ := at_T36 HR0.out x3_1 p110 q110
     cases e110
     replace hx110_0 := (HB.out.cell (jR w _ hx110_0)).trans hx110_0
     replace hx110_1 := (HB.out.cell (jR w _ hx110_1)).trans hx110_1
     replace hx110_2 := (HB.out.cell (jR w _ hx110_2)).trans hx110_2
     replace p110 := eq_true p110
     replace q110 := eq_true q110
     go_upto_region 5 with (first | ((with_reducible refine gate_dst (N := 4) rfl ?_); refine box_event ?hg (N := 4) ?hd (cs := #[.int .i64 0, .int .i64 0, .bool false]) (t := 36) ?hr ?_; (case hd => rfl); (case hg => rfl); (case hr => first | (go_simp; done) | (go_simp; rfl)); intro gb111 hg w5 hbox hb; have n0_ := jA (jM (zb0 HB) hb); have n1_ := jA (hbox); have n2_ := jA ((by rw [hg]; exact (jT (zb0 HB)) : w.heap.size ≤ gb111)); have n3_ := jA ((by rw [hg]; exact (jT (zb0 HB)) : w.heap.size ≤ gb111)); clear HB; have HB := n0_; have BK111 := n1_; have GW111 := n2_; have GE111 := n3_; clear n0_ n1_ n2_ n3_; clear hb hbox hg; have hcz6_0 : w5.cell? ⟨gb111, 0, none⟩ = some (.int .i64 0) := (jE BK111.out 0).trans rfl; have hcz6_1 : w5.cell? ⟨gb111, 1, none⟩ = some (.int .i64 0) := (jE BK111.out 1).trans rfl; have hcz6_2 : w5.cell? ⟨gb111, 2, none⟩ = some (.bool false) := (jE BK111.out 2).trans rfl; have hfz6_0 := je BK111.out 0; have hfz6_1 := je BK111.out 1; have hfz6_2 := je BK111.out 2))
     (try simp only [Act.put, jB, jI, jJ])
     go_cut [42] (fun v42 wc => ∃ (kq : Nat) (x42_3 : Bool), v42 = .bool x42_3 ∧ Aside0 (spec_AreTries.j1 kq l0 x3_1 x42_3 ((rd_T36 l0 x3_1).f0) ((rd_T36 l0 x3_1).f1) ((rd_T36 l0 x3_1).f2) = some r) ∧ Aside0 (kq ≤ k1) ∧ Aside0 (wc.heap[gb111]? = some (.cells #[.int .i64 ((rd_T36 l0 x3_1).f0), .int .i64 ((rd_T36 l0 x3_1).f1), .bool ((rd_T36 l0 x3_1).f2)] 36 (0, 0))) ∧ Aside0 (Below w.heap.size w wc))
     case first =>
      have H := HC4.out
      clear HC4
      replace H := jD.mp H
      obtain ⟨t112, A70, H⟩ := H
      replace H : (if t112 = true then ((spec_l01In.f ((rd_T36 l0 x3_1).f1) 0 100000).bind fun t113 => (if t113 = true then (if x3_1 > 0 then (if 0 ≤ (wrap64 (x3_1 - 1)) then (if (wrap64 (x3_1 - 1)) < (l0.length : Int) then (spec_AreTries.j1 k1 l0 x3_1 (decide (((rd_T36 l0 (wrap64 (x3_1 - 1))).f1) > ((rd_T36 l0 x3_1).f1))) ((rd_T36 l0 x3_1).f0) ((rd_T36 l0 x3_1).f1) ((rd_T36 l0 x3_1).f2)) else (none)) else (none)) else (spec_AreTries.j1 k1 l0 x3_1 false ((rd_T36 l0 x3_1).f0) ((rd_T36 l0 x3_1).f1) ((rd_T36 l0 x3_1).f2))) else (spec_AreTries.j1 k1 l0 x3_1 true ((rd_T36 l0 x3_1).f0) ((rd_T36 l0 x3_1).f1) ((rd_T36 l0 x3_1).f2)))) else (spec_AreTries.j1 k1 l0 x3_1 true ((rd_T36 l0 x3_1).f0) ((rd_T36 l0 x3_1).f1) ((rd_T36 l0 x3_1).f2))) = some r := H
      have A7 := jA A70
      clear A70
      by_cases c8 : t112 = true
      ·subst c8
       have H1 : ((spec_l01In.f ((rd_T36 l0 x3_1).f1) 0 100000).bind fun t113 => (if t113 = true then (if x3_1 > 0 then (if 0 ≤ (wrap64 (x3_1 - 1)) then (if (wrap64 (x3_1 - 1)) < (l0.length : Int) then (spec_AreTries.j1 k1 l0 x3_1 (decide (((rd_T36 l0 (wrap64 (x3_1 - 1))).f1) > ((rd_T36 l0 x3_1).f1))) ((rd_T36 l0 x3_1).f0) ((rd_T36 l0 x3_1).f1) ((rd_T36 l0 x3_1).f2)) else (none)) else (none)) else (spec_AreTries.j1 k1 l0 x3_1 false ((rd_T36 l0 x3_1).f0) ((rd_T36 l0 x3_1).f1) ((rd_T36 l0 x3_1).f2))) else (spec_AreTries.j1 k1 l0 x3_1 true ((rd_T36 l0 x3_1).f0) ((rd_T36 l0 x3_1).f1) ((rd_T36 l0 x3_1).f2)))) = some r := by rw [if_pos rfl] at H; exact H
       clear H
       have H := H1
       clear H1
       replace H := jD.mp H
       obtain ⟨t113, A90, H⟩ := H
       replace H : (if t113 = true then (if x3_1 > 0 then (if 0 ≤ (wrap64 (x3_1 - 1)) then (if (wrap64 (x3_1 - 1)) < (l0.length : Int) then (spec_AreTries.j1 k1 l0 x3_1 (decide (((rd_T36 l0 (wrap64 (x3_1 - 1))).f1) > ((rd_T36 l0 x3_1).f1))) ((rd_T36 l0 x3_1).f0) ((rd_T36 l0 x3_1).f1) ((rd_T36 l0 x3_1).f2)) else (none)) else (none)) else (spec_AreTries.j1 k1 l0 x3_1 false ((rd_T36 l0 x3_1).f0) ((rd_T36 l0 x3_1).f1) ((rd_T36 l0 x3_1).f2))) else (spec_AreTries.j1 k1 l0 x3_1 true ((rd_T36 l0 x3_1).f0) ((rd_T36 l0 x3_1).f1) ((rd_T36 l0 x3_1).f2))) = some r := H
       have A9 := jA A90
       clear A90
       by_cases c10 : t113 = true
       ·subst c10
        have H1 : (if x3_1 > 0 then (if 0 ≤ (wrap64 (x3_1 - 1)) then (if (wrap64 (x3_1 - 1)) < (l0.length : Int) then (spec_AreTries.j1 k1 l0 x3_1 (decide (((rd_T36 l0 (wrap64 (x3_1 - 1))).f1) > ((rd_T36 l0 x3_1).f1))) ((rd_T36 l0 x3_1).f0) ((rd_T36 l0 x3_1).f1) ((rd_T36 l0 x3_1).f2)) else (none)) else (none)) else (spec_AreTries.j1 k1 l0 x3_1 false ((rd_T36 l0 x3_1).f0) ((rd_T36 l0 x3_1).f1) ((rd_T36 l0 x3_1).f2))) = some r := by rw [if_pos rfl] at H; exact H
        clear H
        have H := H1
        clear H1
        by_cases c11 : x3_1 > 0
        ·rw [if_pos c11] at H
         have c11b0 : decide (0 < x3_1) = true := jN c11
         clear c11
         (first | rw [c11b0] | (simp only [i64_w, i32_w]; rw [c11b0]) | skip)
         obtain ⟨ji12, hji12⟩ : ∃ j_ : Int, (wrap64 (x3_1 - 1)) = j_ := ⟨_, rfl⟩
         replace H : (if 0 ≤ (ji12) then (if (ji12) < (l0.length : Int) then (spec_AreTries.j1 k1 l0 x3_1 (decide (((rd_T36 l0 (ji12)).f1) > ((rd_T36 l0 x3_1).f1))) ((rd_T36 l0 x3_1).f0) ((rd_T36 l0 x3_1).f1) ((rd_T36 l0 x3_1).f2)) else (none)) else (none)) = some r := by first | (rw [hji12] at H; exact H) | (simp only [hji12] at H ⊢; exact H)
         (try rw [hji12] at A7)
         (try rw [hji12] at A9)
         have hji12w : (IntKind.i64.wrap (x3_1 - 1)) = ji12 := (i64_w _).trans hji12
         by_cases c13 : 0 ≤ (ji12)
         ·rw [if_pos c13] at H
          have c13b0 : decide (0 ≤ (ji12)) = true := jN c13
          clear c13
          by_cases c14 : (ji12) < (l0.length : Int)
          ·rw [if_pos c14] at H
           have c14b0 : decide ((ji12) < (l0.length : Int)) = true := jN c14
           clear c14
           have H' := jA H
           clear H
           try go_wp2
           have n0_ : Aside0 ((((w5.setCell ⟨gb111, 0, none⟩ (.int .i64 ((rd_T36 l0 x3_1).f0))).setCell ⟨gb111, 1, none⟩ (.int .i64 ((rd_T36 l0 x3_1).f1))).setCell ⟨gb111, 2, none⟩ (.bool ((rd_T36 l0 x3_1).f2))).heap[gb111]? = some (.cells #[.int .i64 ((rd_T36 l0 x3_1).f0), .int .i64 ((rd_T36 l0 x3_1).f1), .bool ((rd_T36 l0 x3_1).f2)] 36 (0, 0))) := ⟨by (with_reducible repeat (first | refine blk_drewN ?_ _ | refine jb ?_ | refine blk_alloc ?_ _)); refine blk_put (cs := #[.int .i64 ((rd_T36 l0 x3_1).f0), .int .i64 ((rd_T36 l0 x3_1).f1), .bool false]) ?_ 2 _ rfl; (with_reducible repeat (first | refine blk_drewN ?_ _ | refine jb ?_ | refine blk_alloc ?_ _)); refine blk_put (cs := #[.int .i64 ((rd_T36 l0 x3_1).f0), .int .i64 0, .bool false]) ?_ 1 _ rfl; (with_reducible repeat (first | refine blk_drewN ?_ _ | refine jb ?_ | refine blk_alloc ?_ _)); refine blk_put (cs := #[.int .i64 0, .int .i64 0, .bool false]) ?_ 0 _ rfl; (with_reducible repeat (first | refine blk_drewN ?_ _ | refine jb ?_ | refine blk_alloc ?_ _)); exact BK111.out⟩
           have n1_ : Aside0 (Below w.heap.size w (((w5.setCell ⟨gb111, 0, none⟩ (.int .i64 ((rd_T36 l0 x3_1).f0))).setCell ⟨gb111, 1, none⟩ (.int .i64 ((rd_T36 l0 x3_1).f1))).setCell ⟨gb111, 2, none⟩ (.bool ((rd_T36 l0 x3_1).f2)))) := ⟨zb1 HB GE111⟩
           (try clear BK111)
           (try clear HB)
           generalize (((w5.setCell ⟨gb111, 0, none⟩ (.int .i64 ((rd_T36 l0 x3_1).f0))).setCell ⟨gb111, 1, none⟩ (.int .i64 ((rd_T36 l0 x3_1).f1))).setCell ⟨gb111, 2, none⟩ (.bool ((rd_T36 l0 x3_1).f2))) = w15 at n0_ n1_ ⊢
           have BK111 := n0_
           have HB := n1_
           clear n0_ n1_
           have n0_ := jA (jb BK111.out)
           have n1_ := jA (jQ HB.out)
           clear BK111
           clear HB
           have BK111 := n0_
           have HB := n1_
           clear n0_ n1_
           have p114 : 0 ≤ ((ji12) : Int) := jC za
           have q114 : (ji12) < (l0.length : Int) := jC za
           obtain ⟨ad114, e114, hx114_0, hx114_1, hx114_2⟩ := at_T36 HR0.out (ji12) p114 q114
           have hw114_2 := hx114_2
           have hw114_1 := hx114_1
           have hw114_0 := hx114_0
           obtain rfl : ad110 = ad114 := (by injection e114)
           replace hx114_0 := (HB.out.cell (jR w _ hx114_0)).trans hx114_0
           replace hx114_1 := (HB.out.cell (jR w _ hx114_1)).trans hx114_1
           replace hx114_2 := (HB.out.cell (jR w _ hx114_2)).trans hx114_2
           replace p114 := eq_true p114
           replace q114 := eq_true q114
           refine start_ (n := 25) (S := fun w' => w'.cell? ⟨gb111, 0, none⟩ = some (.int .i64 ((rd_T36 l0 x3_1).f0)) ∧ w'.cell? ⟨gb111, 1, none⟩ = some (.int .i64 ((rd_T36 l0 x3_1).f1)) ∧ w'.cell? ⟨gb111, 2, none⟩ = some (.bool ((rd_T36 l0 x3_1).f2)) ∧ w'.cell? (ad110.add (((ji12)).toNat * 3)) = some (.int .i64 ((rd_T36 l0 (ji12)).f0)) ∧ w'.cell? ⟨(ad110.add (((ji12)).toNat * 3)).block, (ad110.add (((ji12)).toNat * 3)).off + 1, none⟩ = some (.int .i64 ((rd_T36 l0 (ji12)).f1)) ∧ w'.cell? ⟨(ad110.add (((ji12)).toNat * 3)).block, (ad110.add (((ji12)).toNat * 3)).off + 2, none⟩ = some (.bool ((rd_T36 l0 (ji12)).f2))) (ds := []) m25_0 zr rfl rfl ⟨(jE BK111.out 0).trans rfl, (jE BK111.out 1).trans rfl, (jE BK111.out 2).trans rfl, ((HB.out.cell (jR w _ hw114_0)).trans hw114_0), ((HB.out.cell (jR w _ hw114_1)).trans hw114_1), ((HB.out.cell (jR w _ hw114_2)).trans hw114_2)⟩ (fun hHeld => ?_); refine with_tabW spec_AreTries.tab5 spec_AreTries.bits5 (fun HT_ HW_ => ?_)
           generalize w15.drew = w16 at BK111 HB hx114_0 hx114_1 hx114_2 hHeld ⊢
           refine zp HT_ 0 18 m25_1000000 ?_
           refine zt6 HT_ HW_ hHeld 1 19 m25_1800000 ?_
           refine one_ (i := 2) (N := some 20) m25_1c00000 rfl rfl (one_of HT_.out zr) (by decide) (fun K hK => ?_)
           refine goes_ Try.func47 zr rfl #[.int .i64 ((rd_T36 l0 x3_1).f0), .int .i64 0, .int .i64 19] (by rfl) rfl rfl zm ?_
           with_reducible refine (spec_l01In.calls ((rd_T36 l0 x3_1).f0) 0 19 true _ A7.out).mono ?_
           rintro e w' ⟨rfl, ⟨nd, rfl⟩⟩
           refine ⟨_, rfl, ?_⟩
           refine hK.out _ _ ⟨(jE BK111.out 0).trans rfl, (jE BK111.out 1).trans rfl, (jE BK111.out 2).trans rfl, ((HB.out.cell (jR w _ hw114_0)).trans hw114_0), ((HB.out.cell (jR w _ hw114_1)).trans hw114_1), ((HB.out.cell (jR w _ hw114_2)).trans hw114_2)⟩ (fun hHeld => ?_)
           clear hK K
           refine norm_ (a' := ?_) ?_ ?_
           rotate_left
           ·show Act.put _ (some 20) _ = _
            simp only [Act.put, jB, jI, jJ, i64_w, i32_w]
            rfl
           refine zp HT_ 3 21 m25_1e00000 ?_
           refine zp HT_ 4 22 m25_1f00000 ?_
           refine zp HT_ 5 23 m25_1f80000 ?_
           refine zt6 HT_ HW_ hHeld 6 24 m25_1fc0000 ?_
           refine one_ (i := 7) (N := some 25) m25_1fe0000 rfl rfl (one_of HT_.out zr) (by decide) (fun K hK => ?_)
           refine goes_ Try.func47 zr rfl #[.int .i64 ((rd_T36 l0 x3_1).f1), .int .i64 0, .int .i64 100000] (by rfl) rfl rfl zm ?_
           with_reducible refine (spec_l01In.calls ((rd_T36 l0 x3_1).f1) 0 100000 true _ A9.out).mono ?_
           rintro e w' ⟨rfl, ⟨nd, rfl⟩⟩
           refine ⟨_, rfl, ?_⟩
           refine hK.out _ _ ⟨(jE BK111.out 0).trans rfl, (jE BK111.out 1).trans rfl, (jE BK111.out 2).trans rfl, ((HB.out.cell (jR w _ hw114_0)).trans hw114_0), ((HB.out.cell (jR w _ hw114_1)).trans hw114_1), ((HB.out.cell (jR w _ hw114_2)).trans hw114_2)⟩ (fun hHeld => ?_)
           clear hK K
           refine norm_ (a' := ?_) ?_ ?_
           rotate_left
           ·show Act.put _ (some 25) _ = _
            simp only [Act.put, jB, jI, jJ, i64_w, i32_w]
            rfl
           refine zp HT_ 8 26 m25_1ff0000 ?_
           refine zp HT_ 9 27 m25_1ff8000 ?_
           refine zp HT_ 10 28 m25_1ffc000 ?_
           refine zp HT_ 11 29 m25_1ffe000 ?_
           refine zp HT_ 12 30 m25_1fff000 ?_
           refine zp HT_ 13 31 m25_1fff800 ?_
           refine zp HT_ 14 32 m25_1fffc00 ?_
           refine zp HT_ 15 33 m25_1fffe00 ?_
           refine zp HT_ 16 34 m25_1ffff00 ?_
           refine zp HT_ 17 35 m25_1ffff80 ?_
           refine zp HT_ 18 36 m25_1ffffc0 ?_
           refine zp HT_ 20 38 #[true, true, true, true, true, true, true, true, true, true, true, true, true, true, true, true, true, true, true, false, true, false, false, false, false] ?_
           refine zt6 HT_ HW_ hHeld 19 37 m25_1fffff0 ?_
           refine zt6 HT_ HW_ hHeld 21 39 m25_1fffff8 ?_
           refine zp HT_ 22 40 m25_1fffffc ?_
           refine zp HT_ 23 41 m25_1fffffe ?_
           refine zp HT_ 24 42 m25_1ffffff ?_
           refine done_ (done_of HT_.out zr) ?_
           try go_wp2
           go_meet
           case rel => exact ⟨_, (decide (((rd_T36 l0 (ji12)).f1) > ((rd_T36 l0 x3_1).f1))), (by first | rfl | (simp; done) | (simp only [← hji12] <;> (first | rfl | simp)) | (simp [*]; done)), H', ⟨by have := HK1.out; first | omega | exact Nat.le_refl _⟩, ⟨by (with_reducible repeat (first | refine blk_drewN ?_ _ | refine jb ?_ | refine blk_alloc ?_ _)); exact BK111.out⟩, ⟨zb1 HB GE111⟩⟩
          ·rw [if_neg c14] at H
           exact absurd H (by simp)
         ·rw [if_neg c13] at H
          exact absurd H (by simp)
        ·rw [if_neg c11] at H
         have c11b0 : decide (0 < x3_1) = false := jd c11
         clear c11
         (first | rw [c11b0] | (simp only [i64_w, i32_w]; rw [c11b0]) | skip)
         have H' := jA H
         clear H
         try go_wp2
         have n0_ : Aside0 ((((w5.setCell ⟨gb111, 0, none⟩ (.int .i64 ((rd_T36 l0 x3_1).f0))).setCell ⟨gb111, 1, none⟩ (.int .i64 ((rd_T36 l0 x3_1).f1))).setCell ⟨gb111, 2, none⟩ (.bool ((rd_T36 l0 x3_1).f2))).heap[gb111]? = some (.cells #[.int .i64 ((rd_T36 l0 x3_1).f0), .int .i64 ((rd_T36 l0 x3_1).f1), .bool ((rd_T36 l0 x3_1).f2)] 36 (0, 0))) := ⟨by (with_reducible repeat (first | refine blk_drewN ?_ _ | refine jb ?_ | refine blk_alloc ?_ _)); refine blk_put (cs := #[.int .i64 ((rd_T36 l0 x3_1).f0), .int .i64 ((rd_T36 l0 x3_1).f1), .bool false]) ?_ 2 _ rfl; (with_reducible repeat (first | refine blk_drewN ?_ _ | refine jb ?_ | refine blk_alloc ?_ _)); refine blk_put (cs := #[.int .i64 ((rd_T36 l0 x3_1).f0), .int .i64 0, .bool false]) ?_ 1 _ rfl; (with_reducible repeat (first | refine blk_drewN ?_ _ | refine jb ?_ | refine blk_alloc ?_ _)); refine blk_put (cs := #[.int .i64 0, .int .i64 0, .bool false]) ?_ 0 _ rfl; (with_reducible repeat (first | refine blk_drewN ?_ _ | refine jb ?_ | refine blk_alloc ?_ _)); exact BK111.out⟩
         have n1_ : Aside0 (Below w.heap.size w (((w5.setCell ⟨gb111, 0, none⟩ (.int .i64 ((rd_T36 l0 x3_1).f0))).setCell ⟨gb111, 1, none⟩ (.int .i64 ((rd_T36 l0 x3_1).f1))).setCell ⟨gb111, 2, none⟩ (.bool ((rd_T36 l0 x3_1).f2)))) := ⟨zb1 HB GE111⟩
         (try clear BK111)
         (try clear HB)
         generalize (((w5.setCell ⟨gb111, 0, none⟩ (.int .i64 ((rd_T36 l0 x3_1).f0))).setCell ⟨gb111, 1, none⟩ (.int .i64 ((rd_T36 l0 x3_1).f1))).setCell ⟨gb111, 2, none⟩ (.bool ((rd_T36 l0 x3_1).f2))) = w17 at n0_ n1_ ⊢
         have BK111 := n0_
         have HB := n1_
         clear n0_ n1_
         have n0_ := jA (jb BK111.out)
         have n1_ := jA (jQ HB.out)
         clear BK111
         clear HB
         have BK111 := n0_
         have HB := n1_
         clear n0_ n1_
         refine start_ (n := 25) (S := fun w' => w'.cell? ⟨gb111, 0, none⟩ = some (.int .i64 ((rd_T36 l0 x3_1).f0)) ∧ w'.cell? ⟨gb111, 1, none⟩ = some (.int .i64 ((rd_T36 l0 x3_1).f1)) ∧ w'.cell? ⟨gb111, 2, none⟩ = some (.bool ((rd_T36 l0 x3_1).f2))) (ds := []) m25_0 zr rfl rfl ⟨(jE BK111.out 0).trans rfl, (jE BK111.out 1).trans rfl, (jE BK111.out 2).trans rfl⟩ (fun hHeld => ?_); refine with_tabW spec_AreTries.tab5 spec_AreTries.bits5 (fun HT_ HW_ => ?_)
         generalize w17.drew = w18 at BK111 HB hHeld ⊢
         refine zp HT_ 0 18 m25_1000000 ?_
         refine zt3 HT_ HW_ hHeld 1 19 m25_1800000 ?_
         refine one_ (i := 2) (N := some 20) m25_1c00000 rfl rfl (one_of HT_.out zr) (by decide) (fun K hK => ?_)
         refine goes_ Try.func47 zr rfl #[.int .i64 ((rd_T36 l0 x3_1).f0), .int .i64 0, .int .i64 19] (by rfl) rfl rfl zm ?_
         with_reducible refine (spec_l01In.calls ((rd_T36 l0 x3_1).f0) 0 19 true _ A7.out).mono ?_
         rintro e w' ⟨rfl, ⟨nd, rfl⟩⟩
         refine ⟨_, rfl, ?_⟩
         refine hK.out _ _ ⟨(jE BK111.out 0).trans rfl, (jE BK111.out 1).trans rfl, (jE BK111.out 2).trans rfl⟩ (fun hHeld => ?_)
         clear hK K
         refine norm_ (a' := ?_) ?_ ?_
         rotate_left
         ·show Act.put _ (some 20) _ = _
          simp only [Act.put, jB, jI, jJ, i64_w, i32_w]
          rfl
         refine zp HT_ 3 21 m25_1e00000 ?_
         refine zp HT_ 4 22 m25_1f00000 ?_
         refine zp HT_ 5 23 m25_1f80000 ?_
         refine zt3 HT_ HW_ hHeld 6 24 m25_1fc0000 ?_
         refine one_ (i := 7) (N := some 25) m25_1fe0000 rfl rfl (one_of HT_.out zr) (by decide) (fun K hK => ?_)
         refine goes_ Try.func47 zr rfl #[.int .i64 ((rd_T36 l0 x3_1).f1), .int .i64 0, .int .i64 100000] (by rfl) rfl rfl zm ?_
         with_reducible refine (spec_l01In.calls ((rd_T36 l0 x3_1).f1) 0 100000 true _ A9.out).mono ?_
         rintro e w' ⟨rfl, ⟨nd, rfl⟩⟩
         refine ⟨_, rfl, ?_⟩
         refine hK.out _ _ ⟨(jE BK111.out 0).trans rfl, (jE BK111.out 1).trans rfl, (jE BK111.out 2).trans rfl⟩ (fun hHeld => ?_)
         clear hK K
         refine norm_ (a' := ?_) ?_ ?_
         rotate_left
         ·show Act.put _ (some 25) _ = _
          simp only [Act.put, jB, jI, jJ, i64_w, i32_w]
          rfl
         refine zp HT_ 8 26 m25_1ff0000 ?_
         refine zp HT_ 9 27 m25_1ff8000 ?_
         refine zp HT_ 10 28 m25_1ffc000 ?_
         refine zp HT_ 11 29 m25_1ffe000 ?_
         refine zp HT_ 12 30 m25_1fff000 ?_
         refine zp HT_ 13 31 m25_1fff800 ?_
         refine zq HT_ 14 32 m25_1fffc00 ?_
         refine zq HT_ 15 33 m25_1fffe00 ?_
         refine zq HT_ 16 34 m25_1ffff00 ?_
         refine zq HT_ 17 35 m25_1ffff80 ?_
         refine zq HT_ 18 36 m25_1ffffc0 ?_
         refine zq HT_ 19 37 m25_1ffffe0 ?_
         refine zq HT_ 20 38 m25_1fffff0 ?_
         refine zq HT_ 21 39 m25_1fffff8 ?_
         refine zq HT_ 22 40 m25_1fffffc ?_
         refine zp HT_ 23 41 m25_1fffffe ?_
         refine zp HT_ 24 42 m25_1ffffff ?_
         refine done_ (done_of HT_.out zr) ?_
         try go_wp2
         go_meet
         case rel => exact ⟨_, (false), zz, H', ⟨by have := HK1.out; first | omega | exact Nat.le_refl _⟩, ⟨by (with_reducible repeat (first | refine blk_drewN ?_ _ | refine jb ?_ | refine blk_alloc ?_ _)); exact BK111.out⟩, ⟨zb1 HB GE111⟩⟩
       ·replace c10 := Bool.eq_false_iff.mpr c10
        subst c10
        have H1 : (spec_AreTries.j1 k1 l0 x3_1 true ((rd_T36 l0 x3_1).f0) ((rd_T36 l0 x3_1).f1) ((rd_T36 l0 x3_1).f2)) = some r := by rw [if_neg (show ¬ (false = true) by decide)] at H; exact H
        clear H
        have H := H1
        clear H1
        have H' := jA H
        clear H
        try go_wp2
        have n0_ : Aside0 ((((w5.setCell ⟨gb111, 0, none⟩ (.int .i64 ((rd_T36 l0 x3_1).f0))).setCell ⟨gb111, 1, none⟩ (.int .i64 ((rd_T36 l0 x3_1).f1))).setCell ⟨gb111, 2, none⟩ (.bool ((rd_T36 l0 x3_1).f2))).heap[gb111]? = some (.cells #[.int .i64 ((rd_T36 l0 x3_1).f0), .int .i64 ((rd_T36 l0 x3_1).f1), .bool ((rd_T36 l0 x3_1).f2)] 36 (0, 0))) := ⟨by (with_reducible repeat (first | refine blk_drewN ?_ _ | refine jb ?_ | refine blk_alloc ?_ _)); refine blk_put (cs := #[.int .i64 ((rd_T36 l0 x3_1).f0), .int .i64 ((rd_T36 l0 x3_1).f1), .bool false]) ?_ 2 _ rfl; (with_reducible repeat (first | refine blk_drewN ?_ _ | refine jb ?_ | refine blk_alloc ?_ _)); refine blk_put (cs := #[.int .i64 ((rd_T36 l0 x3_1).f0), .int .i64 0, .bool false]) ?_ 1 _ rfl; (with_reducible repeat (first | refine blk_drewN ?_ _ | refine jb ?_ | refine blk_alloc ?_ _)); refine blk_put (cs := #[.int .i64 0, .int .i64 0, .bool false]) ?_ 0 _ rfl; (with_reducible repeat (first | refine blk_drewN ?_ _ | refine jb ?_ | refine blk_alloc ?_ _)); exact BK111.out⟩
        have n1_ : Aside0 (Below w.heap.size w (((w5.setCell ⟨gb111, 0, none⟩ (.int .i64 ((rd_T36 l0 x3_1).f0))).setCell ⟨gb111, 1, none⟩ (.int .i64 ((rd_T36 l0 x3_1).f1))).setCell ⟨gb111, 2, none⟩ (.bool ((rd_T36 l0 x3_1).f2)))) := ⟨zb1 HB GE111⟩
        (try clear BK111)
        (try clear HB)
        generalize (((w5.setCell ⟨gb111, 0, none⟩ (.int .i64 ((rd_T36 l0 x3_1).f0))).setCell ⟨gb111, 1, none⟩ (.int .i64 ((rd_T36 l0 x3_1).f1))).setCell ⟨gb111, 2, none⟩ (.bool ((rd_T36 l0 x3_1).f2))) = w19 at n0_ n1_ ⊢
        have BK111 := n0_
        have HB := n1_
        clear n0_ n1_
        have n0_ := jA (jb BK111.out)
        have n1_ := jA (jQ HB.out)
        clear BK111
        clear HB
        have BK111 := n0_
        have HB := n1_
        clear n0_ n1_
        refine start_ (n := 25) (S := fun w' => w'.cell? ⟨gb111, 0, none⟩ = some (.int .i64 ((rd_T36 l0 x3_1).f0)) ∧ w'.cell? ⟨gb111, 1, none⟩ = some (.int .i64 ((rd_T36 l0 x3_1).f1)) ∧ w'.cell? ⟨gb111, 2, none⟩ = some (.bool ((rd_T36 l0 x3_1).f2))) (ds := []) m25_0 zr rfl rfl ⟨(jE BK111.out 0).trans rfl, (jE BK111.out 1).trans rfl, (jE BK111.out 2).trans rfl⟩ (fun hHeld => ?_); refine with_tabW spec_AreTries.tab5 spec_AreTries.bits5 (fun HT_ HW_ => ?_)
        generalize w19.drew = w20 at BK111 HB hHeld ⊢
        refine zp HT_ 0 18 m25_1000000 ?_
        refine zt3 HT_ HW_ hHeld 1 19 m25_1800000 ?_
        refine one_ (i := 2) (N := some 20) m25_1c00000 rfl rfl (one_of HT_.out zr) (by decide) (fun K hK => ?_)
        refine goes_ Try.func47 zr rfl #[.int .i64 ((rd_T36 l0 x3_1).f0), .int .i64 0, .int .i64 19] (by rfl) rfl rfl zm ?_
        with_reducible refine (spec_l01In.calls ((rd_T36 l0 x3_1).f0) 0 19 true _ A7.out).mono ?_
        rintro e w' ⟨rfl, ⟨nd, rfl⟩⟩
        refine ⟨_, rfl, ?_⟩
        refine hK.out _ _ ⟨(jE BK111.out 0).trans rfl, (jE BK111.out 1).trans rfl, (jE BK111.out 2).trans rfl⟩ (fun hHeld => ?_)
        clear hK K
        refine norm_ (a' := ?_) ?_ ?_
        rotate_left
        ·show Act.put _ (some 20) _ = _
         simp only [Act.put, jB, jI, jJ, i64_w, i32_w]
         rfl
        refine zp HT_ 3 21 m25_1e00000 ?_
        refine zp HT_ 4 22 m25_1f00000 ?_
        refine zp HT_ 5 23 m25_1f80000 ?_
        refine zt3 HT_ HW_ hHeld 6 24 m25_1fc0000 ?_
        refine one_ (i := 7) (N := some 25) m25_1fe0000 rfl rfl (one_of HT_.out zr) (by decide) (fun K hK => ?_)
        refine goes_ Try.func47 zr rfl #[.int .i64 ((rd_T36 l0 x3_1).f1), .int .i64 0, .int .i64 100000] (by rfl) rfl rfl zm ?_
        with_reducible refine (spec_l01In.calls ((rd_T36 l0 x3_1).f1) 0 100000 false _ A9.out).mono ?_
        rintro e w' ⟨rfl, ⟨nd, rfl⟩⟩
        refine ⟨_, rfl, ?_⟩
        refine hK.out _ _ ⟨(jE BK111.out 0).trans rfl, (jE BK111.out 1).trans rfl, (jE BK111.out 2).trans rfl⟩ (fun hHeld => ?_)
        clear hK K
        refine norm_ (a' := ?_) ?_ ?_
        rotate_left
        ·show Act.put _ (some 25) _ = _
         simp only [Act.put, jB, jI, jJ, i64_w, i32_w]
         rfl
        refine zp HT_ 8 26 m25_1ff0000 ?_
        refine zp HT_ 9 27 m25_1ff8000 ?_
        refine zp HT_ 10 28 m25_1ffc000 ?_
        refine zq HT_ 11 29 m25_1ffe000 ?_
        refine zq HT_ 12 30 m25_1fff000 ?_
        refine zq HT_ 13 31 m25_1fff800 ?_
        refine zq HT_ 14 32 m25_1fffc00 ?_
        refine zq HT_ 15 33 m25_1fffe00 ?_
        refine zq HT_ 16 34 m25_1ffff00 ?_
        refine zq HT_ 17 35 m25_1ffff80 ?_
        refine zq HT_ 18 36 m25_1ffffc0 ?_
        refine zq HT_ 19 37 m25_1ffffe0 ?_
        refine zq HT_ 20 38 m25_1fffff0 ?_
        refine zq HT_ 21 39 m25_1fffff8 ?_
        refine zq HT_ 22 40 m25_1fffffc ?_
        refine zq HT_ 23 41 m25_1fffffe ?_
        refine zp HT_ 24 42 m25_1ffffff ?_
        refine done_ (done_of HT_.out zr) ?_
        try go_wp2
        go_meet
        case rel => exact ⟨_, (true), zz, H', ⟨by have := HK1.out; first | omega | exact Nat.le_refl _⟩, ⟨by (with_reducible repeat (first | refine blk_drewN ?_ _ | refine jb ?_ | refine blk_alloc ?_ _)); exact BK111.out⟩, ⟨zb1 HB GE111⟩⟩
      ·replace c8 := Bool.eq_false_iff.mpr c8
       subst c8
       have H1 : (spec_AreTries.j1 k1 l0 x3_1 true ((rd_T36 l0 x3_1).f0) ((rd_T36 l0 x3_1).f1) ((rd_T36 l0 x3_1).f2)) = some r := by rw [if_neg (show ¬ (false = true) by decide)] at H; exact H
       clear H
       have H := H1
       clear H1
       have H' := jA H
       clear H
       try go_wp2
       have n0_ : Aside0 ((((w5.setCell ⟨gb111, 0, none⟩ (.int .i64 ((rd_T36 l0 x3_1).f0))).setCell ⟨gb111, 1, none⟩ (.int .i64 ((rd_T36 l0 x3_1).f1))).setCell ⟨gb111, 2, none⟩ (.bool ((rd_T36 l0 x3_1).f2))).heap[gb111]? = some (.cells #[.int .i64 ((rd_T36 l0 x3_1).f0), .int .i64 ((rd_T36 l0 x3_1).f1), .bool ((rd_T36 l0 x3_1).f2)] 36 (0, 0))) := ⟨by (with_reducible repeat (first | refine blk_drewN ?_ _ | refine jb ?_ | refine blk_alloc ?_ _)); refine blk_put (cs := #[.int .i64 ((rd_T36 l0 x3_1).f0), .int .i64 ((rd_T36 l0 x3_1).f1), .bool false]) ?_ 2 _ rfl; (with_reducible repeat (first | refine blk_drewN ?_ _ | refine jb ?_ | refine blk_alloc ?_ _)); refine blk_put (cs := #[.int .i64 ((rd_T36 l0 x3_1).f0), .int .i64 0, .bool false]) ?_ 1 _ rfl; (with_reducible repeat (first | refine blk_drewN ?_ _ | refine jb ?_ | refine blk_alloc ?_ _)); refine blk_put (cs := #[.int .i64 0, .int .i64 0, .bool false]) ?_ 0 _ rfl; (with_reducible repeat (first | refine blk_drewN ?_ _ | refine jb ?_ | refine blk_alloc ?_ _)); exact BK111.out⟩
       have n1_ : Aside0 (Below w.heap.size w (((w5.setCell ⟨gb111, 0, none⟩ (.int .i64 ((rd_T36 l0 x3_1).f0))).setCell ⟨gb111, 1, none⟩ (.int .i64 ((rd_T36 l0 x3_1).f1))).setCell ⟨gb111, 2, none⟩ (.bool ((rd_T36 l0 x3_1).f2)))) := ⟨zb1 HB GE111⟩
       (try clear BK111)
       (try clear HB)
       generalize (((w5.setCell ⟨gb111, 0, none⟩ (.int .i64 ((rd_T36 l0 x3_1).f0))).setCell ⟨gb111, 1, none⟩ (.int .i64 ((rd_T36 l0 x3_1).f1))).setCell ⟨gb111, 2, none⟩ (.bool ((rd_T36 l0 x3_1).f2))) = w21 at n0_ n1_ ⊢
       have BK111 := n0_
       have HB := n1_
       clear n0_ n1_
       have n0_ := jA (jb BK111.out)
       have n1_ := jA (jQ HB.out)
       clear BK111
       clear HB
       have BK111 := n0_
       have HB := n1_
       clear n0_ n1_
       refine start_ (n := 25) (S := fun w' => w'.cell? ⟨gb111, 0, none⟩ = some (.int .i64 ((rd_T36 l0 x3_1).f0)) ∧ w'.cell? ⟨gb111, 1, none⟩ = some (.int .i64 ((rd_T36 l0 x3_1).f1)) ∧ w'.cell? ⟨gb111, 2, none⟩ = some (.bool ((rd_T36 l0 x3_1).f2))) (ds := []) m25_0 zr rfl rfl ⟨(jE BK111.out 0).trans rfl, (jE BK111.out 1).trans rfl, (jE BK111.out 2).trans rfl⟩ (fun hHeld => ?_); refine with_tabW spec_AreTries.tab5 spec_AreTries.bits5 (fun HT_ HW_ => ?_)
       generalize w21.drew = w22 at BK111 HB hHeld ⊢
       refine zp HT_ 0 18 m25_1000000 ?_
       refine zt3 HT_ HW_ hHeld 1 19 m25_1800000 ?_
       refine one_ (i := 2) (N := some 20) m25_1c00000 rfl rfl (one_of HT_.out zr) (by decide) (fun K hK => ?_)
       refine goes_ Try.func47 zr rfl #[.int .i64 ((rd_T36 l0 x3_1).f0), .int .i64 0, .int .i64 19] (by rfl) rfl rfl zm ?_
       with_reducible refine (spec_l01In.calls ((rd_T36 l0 x3_1).f0) 0 19 false _ A7.out).mono ?_
       rintro e w' ⟨rfl, ⟨nd, rfl⟩⟩
       refine ⟨_, rfl, ?_⟩
       refine hK.out _ _ ⟨(jE BK111.out 0).trans rfl, (jE BK111.out 1).trans rfl, (jE BK111.out 2).trans rfl⟩ (fun hHeld => ?_)
       clear hK K
       refine norm_ (a' := ?_) ?_ ?_
       rotate_left
       ·show Act.put _ (some 20) _ = _
        simp only [Act.put, jB, jI, jJ, i64_w, i32_w]
        rfl
       refine zp HT_ 3 21 m25_1e00000 ?_
       refine zp HT_ 4 22 m25_1f00000 ?_
       refine zq HT_ 5 23 m25_1f80000 ?_
       refine zq HT_ 6 24 m25_1fc0000 ?_
       refine zq HT_ 7 25 m25_1fe0000 ?_
       refine zq HT_ 8 26 m25_1ff0000 ?_
       refine zp HT_ 9 27 m25_1ff8000 ?_
       refine zp HT_ 10 28 m25_1ffc000 ?_
       refine zq HT_ 11 29 m25_1ffe000 ?_
       refine zq HT_ 12 30 m25_1fff000 ?_
       refine zq HT_ 13 31 m25_1fff800 ?_
       refine zq HT_ 14 32 m25_1fffc00 ?_
       refine zq HT_ 15 33 m25_1fffe00 ?_
       refine zq HT_ 16 34 m25_1ffff00 ?_
       refine zq HT_ 17 35 m25_1ffff80 ?_
       refine zq HT_ 18 36 m25_1ffffc0 ?_
       refine zq HT_ 19 37 m25_1ffffe0 ?_
       refine zq HT_ 20 38 m25_1fffff0 ?_
       refine zq HT_ 21 39 m25_1fffff8 ?_
       refine zq HT_ 22 40 m25_1fffffc ?_
       refine zq HT_ 23 41 m25_1fffffe ?_
       refine zp HT_ 24 42 m25_1ffffff ?_
       refine done_ (done_of HT_.out zr) ?_
       try go_wp2
       go_meet
       case rel => exact ⟨_, (true), zz, H', ⟨by have := HK1.out; first | omega | exact Nat.le_refl _⟩, ⟨by (with_reducible repeat (first | refine blk_drewN ?_ _ | refine jb ?_ | refine blk_alloc ?_ _)); exact BK111.out⟩, ⟨zb1 HB GE111⟩⟩
     case rest =>
      clear HC4
      try clear c1
      try clear p2
      try clear c4
      try clear c8
      try clear c10
      try clear c11
      try clear c11b0
      try clear c13
      try clear c14
      obtain ⟨kq, x42_3, rfl, HA, HJ3, BK111, HB⟩ := hcut
      cases kq with
      | zero => exact absurd HA.out (by simp [spec_AreTries.j1])
      | succ kj3 =>
       have H := HA.out
       clear HA
       simp only [spec_AreTries.j1] at H
       by_cases c23 : x42_3 = true
       ·subst c23
        have H1 : (some false) = some r := by rw [if_pos rfl] at H; exact H
        clear H
        have H := H1
        clear H1
        obtain rfl := jV H
        go_wp2
        go_ret
        exact ⟨by first | rfl | (simp [errW_none, errW_some] <;> rfl) | (simp [*, errW_none, errW_some] <;> rfl), zb1 HB GE111⟩
       ·replace c23 := Bool.eq_false_iff.mpr c23
        subst c23
        have H1 : (if 0 ≤ x3_1 then (if x3_1 ≤ (l0.length : Int) then ((spec_l24Of.f kj3 (l0.take (x3_1 : Int).toNat) ((rd_T36 l0 x3_1).f0)).bind fun bt119 => (if bt119.2 = true then (some false) else (if (bt119.1.length : Int) = 3 then (some false) else (if (bt119.1.length : Int) > 0 then (if 0 ≤ (wrap64 ((bt119.1.length : Int) - 1)) then (if (wrap64 ((bt119.1.length : Int) - 1)) < (bt119.1.length : Int) then (if ((rd_T36 l0 x3_1).f1) < (wrap64 ((rd bt119.1 (wrap64 ((bt119.1.length : Int) - 1))) + 50)) then (some false) else (spec_AreTries.l0 kj3 l0 (wrap64 (x3_1 + 1)))) else (none)) else (none)) else (spec_AreTries.l0 kj3 l0 (wrap64 (x3_1 + 1))))))) else (none)) else (none)) = some r := by rw [if_neg (show ¬ (false = true) by decide)] at H; exact H
        clear H
        have H := H1
        clear H1
        by_cases c24 : 0 ≤ x3_1
        ·rw [if_pos c24] at H
         have c24b0 := eq_true c24
         have c24b1 : decide (0 ≤ x3_1) = true := jN c24
         clear c24
         by_cases c25 : x3_1 ≤ (l0.length : Int)
         ·rw [if_pos c25] at H
          have c25b0 := eq_true c25
          have c25b1 : decide (x3_1 ≤ (l0.length : Int)) = true := jN c25
          clear c25
          obtain ⟨y115, hy115⟩ : ∃ y_ : List (S36), y_ = (l0.take (x3_1 : Int).toNat) := ⟨_, rfl⟩
          replace H : ((spec_l24Of.f kj3 y115 ((rd_T36 l0 x3_1).f0)).bind fun bt119 => (if bt119.2 = true then (some false) else (if (bt119.1.length : Int) = 3 then (some false) else (if (bt119.1.length : Int) > 0 then (if 0 ≤ (wrap64 ((bt119.1.length : Int) - 1)) then (if (wrap64 ((bt119.1.length : Int) - 1)) < (bt119.1.length : Int) then (if ((rd_T36 l0 x3_1).f1) < (wrap64 ((rd bt119.1 (wrap64 ((bt119.1.length : Int) - 1))) + 50)) then (some false) else (spec_AreTries.l0 kj3 l0 (wrap64 (x3_1 + 1)))) else (none)) else (none)) else (spec_AreTries.l0 kj3 l0 (wrap64 (x3_1 + 1))))))) = some r := by first | (rw [hy115]; with_reducible exact H) | (have H2_ := (Option.bind_some _ _).symm.trans H; rw [hy115]; with_reducible exact H2_) | (have H2_ := (Option.bind_some _ _).symm.trans H; with_reducible exact H2_) | with_reducible exact H | (rw [hy115]; exact H) | exact H
          have Ny115 := jA hy115
          clear hy115
          replace H := jD.mp H
          obtain ⟨⟨t119, t120⟩, A260, H⟩ := H
          replace H : (if t120 = true then (some false) else (if (t119.length : Int) = 3 then (some false) else (if (t119.length : Int) > 0 then (if 0 ≤ (wrap64 ((t119.length : Int) - 1)) then (if (wrap64 ((t119.length : Int) - 1)) < (t119.length : Int) then (if ((rd_T36 l0 x3_1).f1) < (wrap64 ((rd t119 (wrap64 ((t119.length : Int) - 1))) + 50)) then (some false) else (spec_AreTries.l0 kj3 l0 (wrap64 (x3_1 + 1)))) else (none)) else (none)) else (spec_AreTries.l0 kj3 l0 (wrap64 (x3_1 + 1)))))) = some r := H
          have A26 := jA A260
          clear A260
          by_cases c27 : t120 = true
          ·subst c27
           have H1 : (some false) = some r := by rw [if_pos rfl] at H; exact H
           clear H
           have H := H1
           clear H1
           obtain rfl := jV H
           try go_wp2
           have n0_ := jA (jb BK111.out)
           have n1_ := jA (jQ HB.out)
           clear BK111
           clear HB
           have BK111 := n0_
           have HB := n1_
           clear n0_ n1_
           have q29 : (x3_1 : Int) ≤ ((l0.length : Int) : Int) := jC za
           obtain ⟨i029, hi029, _, hsz29, _⟩ := info_parts info36
           have hroom29 : l0.length ≤ c0 := HC0.out
           have hC29 : Kd.C k36 _ (some ad110) l0.length l0 := HR0.out
           have hcut29 := cut_to (P := Try.prog) 25 36 .i64 Try.underlying25 hi029 (some ad110) l0.length c0 x3_1 (jC za) q29 hroom29
           have hr29 := Kd.C_take (m := (x3_1 : Int).toNat) hC29 (by omega)
           have hy29 : y115.length = (x3_1 : Int).toNat := (by rw [Ny115.out, List.length_take]; omega)
           rw [← Ny115.out] at hr29
           rw [← hy29] at hcut29
           have HR118 := jA hr29
           have HC118 := jA (show y115.length ≤ c0 from by omega)
           clear hr29 hC29 hroom29 hi029 hsz29
           have KY29 := jA hy29
           clear hy29
           replace q29 := eq_true q29
           refine start_ (n := 11) (S := fun w' => w'.cell? ⟨gb111, 0, none⟩ = some (.int .i64 ((rd_T36 l0 x3_1).f0)) ∧ w'.cell? ⟨gb111, 1, none⟩ = some (.int .i64 ((rd_T36 l0 x3_1).f1)) ∧ w'.cell? ⟨gb111, 2, none⟩ = some (.bool ((rd_T36 l0 x3_1).f2))) (ds := []) m11_0 zr rfl rfl ⟨(jE BK111.out 0).trans rfl, (jE BK111.out 1).trans rfl, (jE BK111.out 2).trans rfl⟩ (fun hHeld => ?_); refine with_tabW spec_AreTries.tab7 spec_AreTries.bits7 (fun HT_ HW_ => ?_)
           generalize wc.drew = w28 at BK111 HB HR118 hHeld ⊢
           refine zp HT_ 0 44 m11_400 ?_
           refine zp HT_ 1 45 m11_600 ?_
           refine zp HT_ 2 46 m11_700 ?_
           refine zp HT_ 3 47 m11_780 ?_
           refine zt3 HT_ HW_ hHeld 4 48 m11_7c0 ?_
           refine one_ (i := 5) (N := some 49) m11_7e0 rfl rfl (one_of HT_.out zr) (by decide) (fun K hK => ?_)
           refine goes_ Try.func48 zr rfl #[.slice (some ad110) y115.length c0, .int .i64 ((rd_T36 l0 x3_1).f0)] (by rfl) rfl rfl zm ?_
           with_reducible refine (spec_l24Of.calls kj3 _ _ y115 ((rd_T36 l0 x3_1).f0) t119 true _ ?side1 ?side2 A26.out).mono ?_
           (case side1 => exact zs HR118 HB)
           (case side2 => exact HC118.out)
           rintro e w30 ⟨v121, rfl, ho0, hb⟩
           refine ⟨_, rfl, ?_⟩
           have n0_ := jA (jZ ho0 (jT (zb1 HB GE111)))
           have n1_ := jA (blk_below (g := gb111) (o := .cells #[.int .i64 ((rd_T36 l0 x3_1).f0), .int .i64 ((rd_T36 l0 x3_1).f1), .bool ((rd_T36 l0 x3_1).f2)] 36 (0, 0)) (zk BK111) hb)
           have n2_ := jA (jM (zb1 HB GE111) hb)
           clear BK111
           clear HB
           have HO122 := n0_
           have BK111 := n1_
           have HB := n2_
           clear n0_ n1_ n2_
           (try clear hb)
           (try clear hb2)
           (try clear hk)
           (try clear hi)
           (try clear ho0)
           refine hK.out _ _ ⟨(jE BK111.out 0).trans rfl, (jE BK111.out 1).trans rfl, (jE BK111.out 2).trans rfl⟩ (fun hHeld => ?_)
           clear hK K
           refine norm_ (a' := ?_) ?_ ?_
           rotate_left
           ·show Act.put _ (some 49) _ = _
            simp only [Act.put, jB, jI, jJ, i64_w, i32_w]
            rfl
           refine zp HT_ 6 43 m11_7f0 ?_
           refine zp HT_ 7 50 m11_7f8 ?_
           refine zp HT_ 8 51 m11_7fc ?_
           refine zp HT_ 9 5 m11_7fe ?_
           refine zp HT_ 10 6 m11_7ff ?_
           refine done_ (done_of HT_.out zr) ?_
           obtain ⟨Ao31, co31, eo31⟩ := Kd.R_slice HO122.out
           subst eo31
           try go_wp2
           have n0_ := jA (jK HO122.out)
           have n1_ := jA (jb BK111.out)
           have n2_ := jA (jQ HB.out)
           clear HO122
           clear BK111
           clear HB
           have HO122 := n0_
           have BK111 := n1_
           have HB := n2_
           clear n0_ n1_ n2_
           refine start_ (n := 20) (S := fun w' => True) (ds := []) m20_0 zr rfl rfl trivial (fun hHeld => ?_); refine with_tabW spec_AreTries.tab9 spec_AreTries.bits9 (fun HT_ HW_ => ?_)
           generalize w30.drew = w32 at HO122 BK111 HB hHeld ⊢
           refine zp HT_ 0 54 m20_80000 ?_
           refine zp HT_ 1 55 m20_c0000 ?_
           refine zq HT_ 2 56 m20_e0000 ?_
           refine zq HT_ 3 57 m20_f0000 ?_
           refine zp HT_ 4 58 m20_f8000 ?_
           refine zp HT_ 5 59 m20_fc000 ?_
           refine zq HT_ 6 60 m20_fe000 ?_
           refine zq HT_ 7 61 m20_ff000 ?_
           refine zq HT_ 8 62 m20_ff800 ?_
           refine zq HT_ 9 63 m20_ffc00 ?_
           refine zq HT_ 10 64 m20_ffe00 ?_
           refine zq HT_ 11 65 m20_fff00 ?_
           refine zq HT_ 12 66 m20_fff80 ?_
           refine zq HT_ 13 67 m20_fffc0 ?_
           refine zq HT_ 14 68 m20_fffe0 ?_
           refine zq HT_ 15 69 m20_ffff0 ?_
           refine zq HT_ 16 70 m20_ffff8 ?_
           refine zq HT_ 17 71 m20_ffffc ?_
           refine zq HT_ 18 72 m20_ffffe ?_
           refine zp HT_ 19 73 m20_fffff ?_
           refine done_ (done_of HT_.out zr) ?_
           try go_wp2
           go_ret
           exact ⟨by first | rfl | (simp [errW_none, errW_some] <;> rfl) | (simp [*, errW_none, errW_some] <;> rfl), zb1 HB GE111⟩
          ·replace c27 := Bool.eq_false_iff.mpr c27
           subst c27
           have H1 : (if (t119.length : Int) = 3 then (some false) else (if (t119.length : Int) > 0 then (if 0 ≤ (wrap64 ((t119.length : Int) - 1)) then (if (wrap64 ((t119.length : Int) - 1)) < (t119.length : Int) then (if ((rd_T36 l0 x3_1).f1) < (wrap64 ((rd t119 (wrap64 ((t119.length : Int) - 1))) + 50)) then (some false) else (spec_AreTries.l0 kj3 l0 (wrap64 (x3_1 + 1)))) else (none)) else (none)) else (spec_AreTries.l0 kj3 l0 (wrap64 (x3_1 + 1))))) = some r := by rw [if_neg (show ¬ (false = true) by decide)] at H; exact H
           clear H
           have H := H1
           clear H1
           by_cases c33 : (t119.length : Int) = 3
           ·rw [if_pos c33] at H
            have c33b0 : ((t119.length : Int) == 3) = true := beq_iff_eq.mpr c33
            have c33b1 : ((t119.length : Int) != 3) = false := bne_eq_false_iff_eq.mpr c33
            clear c33
            obtain rfl := jV H
            try go_wp2
            have n0_ := jA (jb BK111.out)
            have n1_ := jA (jQ HB.out)
            clear BK111
            clear HB
            have BK111 := n0_
            have HB := n1_
            clear n0_ n1_
            have q35 : (x3_1 : Int) ≤ ((l0.length : Int) : Int) := jC za
            obtain ⟨i035, hi035, _, hsz35, _⟩ := info_parts info36
            have hroom35 : l0.length ≤ c0 := HC0.out
            have hC35 : Kd.C k36 _ (some ad110) l0.length l0 := HR0.out
            (try clear hcut29)
            have hcut35 := cut_to (P := Try.prog) 25 36 .i64 Try.underlying25 hi035 (some ad110) l0.length c0 x3_1 (jC za) q35 hroom35
            have hr35 := Kd.C_take (m := (x3_1 : Int).toNat) hC35 (by omega)
            have hy35 : y115.length = (x3_1 : Int).toNat := (by rw [Ny115.out, List.length_take]; omega)
            rw [← Ny115.out] at hr35
            rw [← hy35] at hcut35
            have HR118 := jA hr35
            have HC118 := jA (show y115.length ≤ c0 from by omega)
            clear hr35 hC35 hroom35 hi035 hsz35
            have KY35 := jA hy35
            clear hy35
            replace q35 := eq_true q35
            refine start_ (n := 11) (S := fun w' => w'.cell? ⟨gb111, 0, none⟩ = some (.int .i64 ((rd_T36 l0 x3_1).f0)) ∧ w'.cell? ⟨gb111, 1, none⟩ = some (.int .i64 ((rd_T36 l0 x3_1).f1)) ∧ w'.cell? ⟨gb111, 2, none⟩ = some (.bool ((rd_T36 l0 x3_1).f2))) (ds := []) m11_0 zr rfl rfl ⟨(jE BK111.out 0).trans rfl, (jE BK111.out 1).trans rfl, (jE BK111.out 2).trans rfl⟩ (fun hHeld => ?_); refine with_tabW spec_AreTries.tab7 spec_AreTries.bits7 (fun HT_ HW_ => ?_)
            generalize wc.drew = w34 at BK111 HB HR118 hHeld ⊢
            refine zp HT_ 0 44 m11_400 ?_
            refine zp HT_ 1 45 m11_600 ?_
            refine zp HT_ 2 46 m11_700 ?_
            refine zp HT_ 3 47 m11_780 ?_
            refine zt3 HT_ HW_ hHeld 4 48 m11_7c0 ?_
            refine one_ (i := 5) (N := some 49) m11_7e0 rfl rfl (one_of HT_.out zr) (by decide) (fun K hK => ?_)
            refine goes_ Try.func48 zr rfl #[.slice (some ad110) y115.length c0, .int .i64 ((rd_T36 l0 x3_1).f0)] (by rfl) rfl rfl zm ?_
            with_reducible refine (spec_l24Of.calls kj3 _ _ y115 ((rd_T36 l0 x3_1).f0) t119 false _ ?side1 ?side2 A26.out).mono ?_
            (case side1 => exact zs HR118 HB)
            (case side2 => exact HC118.out)
            rintro e w36 ⟨v121, rfl, ho0, hb⟩
            refine ⟨_, rfl, ?_⟩
            have n0_ := jA (jZ ho0 (jT (zb1 HB GE111)))
            have n1_ := jA (blk_below (g := gb111) (o := .cells #[.int .i64 ((rd_T36 l0 x3_1).f0), .int .i64 ((rd_T36 l0 x3_1).f1), .bool ((rd_T36 l0 x3_1).f2)] 36 (0, 0)) (zk BK111) hb)
            have n2_ := jA (jM (zb1 HB GE111) hb)
            clear BK111
            clear HB
            have HO122 := n0_
            have BK111 := n1_
            have HB := n2_
            clear n0_ n1_ n2_
            (try clear hb)
            (try clear hb2)
            (try clear hk)
            (try clear hi)
            (try clear ho0)
            refine hK.out _ _ ⟨(jE BK111.out 0).trans rfl, (jE BK111.out 1).trans rfl, (jE BK111.out 2).trans rfl⟩ (fun hHeld => ?_)
            clear hK K
            refine norm_ (a' := ?_) ?_ ?_
            rotate_left
            ·show Act.put _ (some 49) _ = _
             simp only [Act.put, jB, jI, jJ, i64_w, i32_w]
             rfl
            refine zp HT_ 6 43 m11_7f0 ?_
            refine zp HT_ 7 50 m11_7f8 ?_
            refine zp HT_ 8 51 m11_7fc ?_
            refine zp HT_ 9 5 m11_7fe ?_
            refine zp HT_ 10 6 m11_7ff ?_
            refine done_ (done_of HT_.out zr) ?_
            obtain ⟨Ao37, co37, eo37⟩ := Kd.R_slice HO122.out
            subst eo37
            try go_wp2
            have n0_ := jA (jK HO122.out)
            have n1_ := jA (jb BK111.out)
            have n2_ := jA (jQ HB.out)
            clear HO122
            clear BK111
            clear HB
            have HO122 := n0_
            have BK111 := n1_
            have HB := n2_
            clear n0_ n1_ n2_
            refine start_ (n := 20) (S := fun w' => True) (ds := []) m20_0 zr rfl rfl trivial (fun hHeld => ?_); refine with_tabW spec_AreTries.tab9 spec_AreTries.bits9 (fun HT_ HW_ => ?_)
            generalize w36.drew = w38 at HO122 BK111 HB hHeld ⊢
            refine zp HT_ 0 54 m20_80000 ?_
            refine zp HT_ 1 55 m20_c0000 ?_
            refine zp HT_ 2 56 m20_e0000 ?_
            refine zp HT_ 3 57 m20_f0000 ?_
            refine zp HT_ 4 58 m20_f8000 ?_
            refine zp HT_ 5 59 m20_fc000 ?_
            refine zq HT_ 6 60 m20_fe000 ?_
            refine zq HT_ 7 61 m20_ff000 ?_
            refine zq HT_ 8 62 m20_ff800 ?_
            refine zq HT_ 9 63 m20_ffc00 ?_
            refine zq HT_ 10 64 m20_ffe00 ?_
            refine zq HT_ 11 65 m20_fff00 ?_
            refine zq HT_ 12 66 m20_fff80 ?_
            refine zq HT_ 13 67 m20_fffc0 ?_
            refine zq HT_ 14 68 m20_fffe0 ?_
            refine zq HT_ 15 69 m20_ffff0 ?_
            refine zq HT_ 16 70 m20_ffff8 ?_
            refine zq HT_ 17 71 m20_ffffc ?_
            refine zq HT_ 18 72 m20_ffffe ?_
            refine zp HT_ 19 73 m20_fffff ?_
            refine done_ (done_of HT_.out zr) ?_
            try go_wp2
            go_ret
            exact ⟨by first | rfl | (simp [errW_none, errW_some] <;> rfl) | (simp [*, errW_none, errW_some] <;> rfl), zb1 HB GE111⟩
           ·rw [if_neg c33] at H
            have c33b0 : ((t119.length : Int) == 3) = false := beq_eq_false_iff_ne.mpr c33
            have c33b1 : ((t119.length : Int) != 3) = true := bne_iff_ne.mpr c33
            by_cases c39 : (t119.length : Int) > 0
            ·rw [if_pos c39] at H
             have c39b0 : decide (0 < (t119.length : Int)) = true := jN c39
             have c39b1 : decide (0 < t119.length) = true := jN (by omega)
             clear c39
             obtain ⟨ji40, hji40⟩ : ∃ j_ : Int, (wrap64 ((t119.length : Int) - 1)) = j_ := ⟨_, rfl⟩
             replace H : (if 0 ≤ (ji40) then (if (ji40) < (t119.length : Int) then (if ((rd_T36 l0 x3_1).f1) < (wrap64 ((rd t119 (ji40)) + 50)) then (some false) else (spec_AreTries.l0 kj3 l0 (wrap64 (x3_1 + 1)))) else (none)) else (none)) = some r := by first | (rw [hji40] at H; exact H) | (simp only [hji40] at H ⊢; exact H)
             (try rw [hji40] at A26)
             have hji40w : (IntKind.i64.wrap ((t119.length : Int) - 1)) = ji40 := (i64_w _).trans hji40
             by_cases c41 : 0 ≤ (ji40)
             ·rw [if_pos c41] at H
              have c41b0 : decide (0 ≤ (ji40)) = true := jN c41
              clear c41
              by_cases c42 : (ji40) < (t119.length : Int)
              ·rw [if_pos c42] at H
               have c42b0 : decide ((ji40) < (t119.length : Int)) = true := jN c42
               clear c42
               by_cases c43 : ((rd_T36 l0 x3_1).f1) < (wrap64 ((rd t119 (ji40)) + 50))
               ·rw [if_pos c43] at H
                have c43b0 : decide (((rd_T36 l0 x3_1).f1) < (wrap64 ((rd t119 (ji40)) + 50))) = true := jN c43
                clear c43
                obtain rfl := jV H
                try go_wp2
                have n0_ := jA (jb BK111.out)
                have n1_ := jA (jQ HB.out)
                clear BK111
                clear HB
                have BK111 := n0_
                have HB := n1_
                clear n0_ n1_
                have q45 : (x3_1 : Int) ≤ ((l0.length : Int) : Int) := jC za
                obtain ⟨i045, hi045, _, hsz45, _⟩ := info_parts info36
                have hroom45 : l0.length ≤ c0 := HC0.out
                have hC45 : Kd.C k36 _ (some ad110) l0.length l0 := HR0.out
                (try clear hcut29)
                (try clear hcut35)
                have hcut45 := cut_to (P := Try.prog) 25 36 .i64 Try.underlying25 hi045 (some ad110) l0.length c0 x3_1 (jC za) q45 hroom45
                have hr45 := Kd.C_take (m := (x3_1 : Int).toNat) hC45 (by omega)
                have hy45 : y115.length = (x3_1 : Int).toNat := (by rw [Ny115.out, List.length_take]; omega)
                rw [← Ny115.out] at hr45
                rw [← hy45] at hcut45
                have HR118 := jA hr45
                have HC118 := jA (show y115.length ≤ c0 from by omega)
                clear hr45 hC45 hroom45 hi045 hsz45
                have KY45 := jA hy45
                clear hy45
                replace q45 := eq_true q45
                refine start_ (n := 11) (S := fun w' => w'.cell? ⟨gb111, 0, none⟩ = some (.int .i64 ((rd_T36 l0 x3_1).f0)) ∧ w'.cell? ⟨gb111, 1, none⟩ = some (.int .i64 ((rd_T36 l0 x3_1).f1)) ∧ w'.cell? ⟨gb111, 2, none⟩ = some (.bool ((rd_T36 l0 x3_1).f2))) (ds := []) m11_0 zr rfl rfl ⟨(jE BK111.out 0).trans rfl, (jE BK111.out 1).trans rfl, (jE BK111.out 2).trans rfl⟩ (fun hHeld => ?_); refine with_tabW spec_AreTries.tab7 spec_AreTries.bits7 (fun HT_ HW_ => ?_)
                generalize wc.drew = w44 at BK111 HB HR118 hHeld ⊢
                refine zp HT_ 0 44 m11_400 ?_
                refine zp HT_ 1 45 m11_600 ?_
                refine zp HT_ 2 46 m11_700 ?_
                refine zp HT_ 3 47 m11_780 ?_
                refine zt3 HT_ HW_ hHeld 4 48 m11_7c0 ?_
                refine one_ (i := 5) (N := some 49) m11_7e0 rfl rfl (one_of HT_.out zr) (by decide) (fun K hK => ?_)
                refine goes_ Try.func48 zr rfl #[.slice (some ad110) y115.length c0, .int .i64 ((rd_T36 l0 x3_1).f0)] (by rfl) rfl rfl zm ?_
                with_reducible refine (spec_l24Of.calls kj3 _ _ y115 ((rd_T36 l0 x3_1).f0) t119 false _ ?side1 ?side2 A26.out).mono ?_
                (case side1 => exact zs HR118 HB)
                (case side2 => exact HC118.out)
                rintro e w46 ⟨v121, rfl, ho0, hb⟩
                refine ⟨_, rfl, ?_⟩
                have n0_ := jA (jZ ho0 (jT (zb1 HB GE111)))
                have n1_ := jA (blk_below (g := gb111) (o := .cells #[.int .i64 ((rd_T36 l0 x3_1).f0), .int .i64 ((rd_T36 l0 x3_1).f1), .bool ((rd_T36 l0 x3_1).f2)] 36 (0, 0)) (zk BK111) hb)
                have n2_ := jA (jM (zb1 HB GE111) hb)
                clear BK111
                clear HB
                have HO122 := n0_
                have BK111 := n1_
                have HB := n2_
                clear n0_ n1_ n2_
                (try clear hb)
                (try clear hb2)
                (try clear hk)
                (try clear hi)
                (try clear ho0)
                refine hK.out _ _ ⟨(jE BK111.out 0).trans rfl, (jE BK111.out 1).trans rfl, (jE BK111.out 2).trans rfl⟩ (fun hHeld => ?_)
                clear hK K
                refine norm_ (a' := ?_) ?_ ?_
                rotate_left
                ·show Act.put _ (some 49) _ = _
                 simp only [Act.put, jB, jI, jJ, i64_w, i32_w]
                 rfl
                refine zp HT_ 6 43 m11_7f0 ?_
                refine zp HT_ 7 50 m11_7f8 ?_
                refine zp HT_ 8 51 m11_7fc ?_
                refine zp HT_ 9 5 m11_7fe ?_
                refine zp HT_ 10 6 m11_7ff ?_
                refine done_ (done_of HT_.out zr) ?_
                obtain ⟨Ao47, co47, eo47⟩ := Kd.R_slice HO122.out
                subst eo47
                try go_wp2
                have n0_ := jA (jK HO122.out)
                have n1_ := jA (jb BK111.out)
                have n2_ := jA (jQ HB.out)
                clear HO122
                clear BK111
                clear HB
                have HO122 := n0_
                have BK111 := n1_
                have HB := n2_
                clear n0_ n1_ n2_
                have p123 : 0 ≤ ((ji40) : Int) := jC za
                have q123 : (ji40) < (t119.length : Int) := jC za
                obtain ⟨ad123, e123, hx123_0⟩ := Kd.at_int (jH HO122.out).2.2 (ji40) p123 q123
                cases e123
                replace p123 := eq_true p123
                replace q123 := eq_true q123
                refine start_ (n := 20) (S := fun w' => w'.cell? ⟨gb111, 0, none⟩ = some (.int .i64 ((rd_T36 l0 x3_1).f0)) ∧ w'.cell? ⟨gb111, 1, none⟩ = some (.int .i64 ((rd_T36 l0 x3_1).f1)) ∧ w'.cell? ⟨gb111, 2, none⟩ = some (.bool ((rd_T36 l0 x3_1).f2)) ∧ w'.cell? (ad123.add ((ji40)).toNat) = some (.int .i64 (rd t119 (ji40)))) (ds := []) m20_0 zr rfl rfl ⟨(jE BK111.out 0).trans rfl, (jE BK111.out 1).trans rfl, (jE BK111.out 2).trans rfl, hx123_0⟩ (fun hHeld => ?_); refine with_tabW spec_AreTries.tab9 spec_AreTries.bits9 (fun HT_ HW_ => ?_)
                generalize w46.drew = w48 at HO122 BK111 HB hx123_0 hHeld ⊢
                refine zp HT_ 0 54 m20_80000 ?_
                refine zp HT_ 1 55 m20_c0000 ?_
                refine zp HT_ 2 56 m20_e0000 ?_
                refine zp HT_ 3 57 m20_f0000 ?_
                refine zp HT_ 4 58 m20_f8000 ?_
                refine zp HT_ 5 59 m20_fc000 ?_
                refine zp HT_ 6 60 m20_fe000 ?_
                refine zp HT_ 7 61 m20_ff000 ?_
                refine zp HT_ 8 62 m20_ff800 ?_
                refine zp HT_ 9 63 m20_ffc00 ?_
                refine zp HT_ 11 65 m20_ffd00 ?_
                refine zp HT_ 12 66 m20_ffd80 ?_
                refine zp HT_ 13 67 m20_ffdc0 ?_
                refine zp HT_ 14 68 m20_ffde0 ?_
                refine zt4 HT_ HW_ hHeld 10 64 m20_fffe0 ?_
                refine zt4 HT_ HW_ hHeld 15 69 m20_ffff0 ?_
                refine zp HT_ 16 70 m20_ffff8 ?_
                refine zp HT_ 17 71 m20_ffffc ?_
                refine zp HT_ 18 72 m20_ffffe ?_
                refine zp HT_ 19 73 m20_fffff ?_
                refine done_ (done_of HT_.out zr) ?_
                try go_wp2
                go_ret
                exact ⟨by first | rfl | (simp [errW_none, errW_some] <;> rfl) | (simp only [← hji40]; first | rfl | (simp [errW_none, errW_some] <;> rfl)) | (simp [*, errW_none, errW_some] <;> rfl), zb1 HB GE111⟩
               ·rw [if_neg c43] at H
                have c43b0 : decide (((rd_T36 l0 x3_1).f1) < (wrap64 ((rd t119 (ji40)) + 50))) = false := jd c43
                clear c43
                have H' := jA H
                clear H
                try go_wp2
                have n0_ := jA (jb BK111.out)
                have n1_ := jA (jQ HB.out)
                clear BK111
                clear HB
                have BK111 := n0_
                have HB := n1_
                clear n0_ n1_
                have q50 : (x3_1 : Int) ≤ ((l0.length : Int) : Int) := jC za
                obtain ⟨i050, hi050, _, hsz50, _⟩ := info_parts info36
                have hroom50 : l0.length ≤ c0 := HC0.out
                have hC50 : Kd.C k36 _ (some ad110) l0.length l0 := HR0.out
                (try clear hcut29)
                (try clear hcut35)
                (try clear hcut45)
                have hcut50 := cut_to (P := Try.prog) 25 36 .i64 Try.underlying25 hi050 (some ad110) l0.length c0 x3_1 (jC za) q50 hroom50
                have hr50 := Kd.C_take (m := (x3_1 : Int).toNat) hC50 (by omega)
                have hy50 : y115.length = (x3_1 : Int).toNat := (by rw [Ny115.out, List.length_take]; omega)
                rw [← Ny115.out] at hr50
                rw [← hy50] at hcut50
                have HR118 := jA hr50
                have HC118 := jA (show y115.length ≤ c0 from by omega)
                clear hr50 hC50 hroom50 hi050 hsz50
                have KY50 := jA hy50
                clear hy50
                replace q50 := eq_true q50
                refine start_ (n := 11) (S := fun w' => w'.cell? ⟨gb111, 0, none⟩ = some (.int .i64 ((rd_T36 l0 x3_1).f0)) ∧ w'.cell? ⟨gb111, 1, none⟩ = some (.int .i64 ((rd_T36 l0 x3_1).f1)) ∧ w'.cell? ⟨gb111, 2, none⟩ = some (.bool ((rd_T36 l0 x3_1).f2))) (ds := []) m11_0 zr rfl rfl ⟨(jE BK111.out 0).trans rfl, (jE BK111.out 1).trans rfl, (jE BK111.out 2).trans rfl⟩ (fun hHeld => ?_); refine with_tabW spec_AreTries.tab7 spec_AreTries.bits7 (fun HT_ HW_ => ?_)
                generalize wc.drew = w49 at BK111 HB HR118 hHeld ⊢
                refine zp HT_ 0 44 m11_400 ?_
                refine zp HT_ 1 45 m11_600 ?_
                refine zp HT_ 2 46 m11_700 ?_
                refine zp HT_ 3 47 m11_780 ?_
                refine zt3 HT_ HW_ hHeld 4 48 m11_7c0 ?_
                refine one_ (i := 5) (N := some 49) m11_7e0 rfl rfl (one_of HT_.out zr) (by decide) (fun K hK => ?_)
                refine goes_ Try.func48 zr rfl #[.slice (some ad110) y115.length c0, .int .i64 ((rd_T36 l0 x3_1).f0)] (by rfl) rfl rfl zm ?_
                with_reducible refine (spec_l24Of.calls kj3 _ _ y115 ((rd_T36 l0 x3_1).f0) t119 false _ ?side1 ?side2 A26.out).mono ?_
                (case side1 => exact zs HR118 HB)
                (case side2 => exact HC118.out)
                rintro e w51 ⟨v121, rfl, ho0, hb⟩
                refine ⟨_, rfl, ?_⟩
                have n0_ := jA (jZ ho0 (jT (zb1 HB GE111)))
                have n1_ := jA (blk_below (g := gb111) (o := .cells #[.int .i64 ((rd_T36 l0 x3_1).f0), .int .i64 ((rd_T36 l0 x3_1).f1), .bool ((rd_T36 l0 x3_1).f2)] 36 (0, 0)) (zk BK111) hb)
                have n2_ := jA (jM (zb1 HB GE111) hb)
                clear BK111
                clear HB
                have HO122 := n0_
                have BK111 := n1_
                have HB := n2_
                clear n0_ n1_ n2_
                (try clear hb)
                (try clear hb2)
                (try clear hk)
                (try clear hi)
                (try clear ho0)
                refine hK.out _ _ ⟨(jE BK111.out 0).trans rfl, (jE BK111.out 1).trans rfl, (jE BK111.out 2).trans rfl⟩ (fun hHeld => ?_)
                clear hK K
                refine norm_ (a' := ?_) ?_ ?_
                rotate_left
                ·show Act.put _ (some 49) _ = _
                 simp only [Act.put, jB, jI, jJ, i64_w, i32_w]
                 rfl
                refine zp HT_ 6 43 m11_7f0 ?_
                refine zp HT_ 7 50 m11_7f8 ?_
                refine zp HT_ 8 51 m11_7fc ?_
                refine zp HT_ 9 5 m11_7fe ?_
                refine zp HT_ 10 6 m11_7ff ?_
                refine done_ (done_of HT_.out zr) ?_
                obtain ⟨Ao52, co52, eo52⟩ := Kd.R_slice HO122.out
                subst eo52
                try go_wp2
                have n0_ := jA (jK HO122.out)
                have n1_ := jA (jb BK111.out)
                have n2_ := jA (jQ HB.out)
                clear HO122
                clear BK111
                clear HB
                have HO122 := n0_
                have BK111 := n1_
                have HB := n2_
                clear n0_ n1_ n2_
                have p123 : 0 ≤ ((ji40) : Int) := jC za
                have q123 : (ji40) < (t119.length : Int) := jC za
                obtain ⟨ad123, e123, hx123_0⟩ := Kd.at_int (jH HO122.out).2.2 (ji40) p123 q123
                cases e123
                replace p123 := eq_true p123
                replace q123 := eq_true q123
                refine start_ (n := 20) (S := fun w' => w'.cell? ⟨gb111, 0, none⟩ = some (.int .i64 ((rd_T36 l0 x3_1).f0)) ∧ w'.cell? ⟨gb111, 1, none⟩ = some (.int .i64 ((rd_T36 l0 x3_1).f1)) ∧ w'.cell? ⟨gb111, 2, none⟩ = some (.bool ((rd_T36 l0 x3_1).f2)) ∧ w'.cell? (ad123.add ((ji40)).toNat) = some (.int .i64 (rd t119 (ji40)))) (ds := []) m20_0 zr rfl rfl ⟨(jE BK111.out 0).trans rfl, (jE BK111.out 1).trans rfl, (jE BK111.out 2).trans rfl, hx123_0⟩ (fun hHeld => ?_); refine with_tabW spec_AreTries.tab9 spec_AreTries.bits9 (fun HT_ HW_ => ?_)
                generalize w51.drew = w53 at HO122 BK111 HB hx123_0 hHeld ⊢
                refine zp HT_ 0 54 m20_80000 ?_
                refine zp HT_ 1 55 m20_c0000 ?_
                refine zp HT_ 2 56 m20_e0000 ?_
                refine zp HT_ 3 57 m20_f0000 ?_
                refine zp HT_ 4 58 m20_f8000 ?_
                refine zp HT_ 5 59 m20_fc000 ?_
                refine zp HT_ 6 60 m20_fe000 ?_
                refine zp HT_ 7 61 m20_ff000 ?_
                refine zp HT_ 8 62 m20_ff800 ?_
                refine zp HT_ 9 63 m20_ffc00 ?_
                refine zp HT_ 11 65 m20_ffd00 ?_
                refine zp HT_ 12 66 m20_ffd80 ?_
                refine zp HT_ 13 67 m20_ffdc0 ?_
                refine zp HT_ 14 68 m20_ffde0 ?_
                refine zt4 HT_ HW_ hHeld 10 64 m20_fffe0 ?_
                refine zt4 HT_ HW_ hHeld 15 69 m20_ffff0 ?_
                refine zp HT_ 16 70 m20_ffff8 ?_
                refine zp HT_ 17 71 m20_ffffc ?_
                refine zp HT_ 18 72 m20_ffffe ?_
                refine zp HT_ 19 73 m20_fffff ?_
                refine done_ (done_of HT_.out zr) ?_
                try go_wp2
                go_roundg kj3
                case measure => have := HK1.out; have := HJ3.out; omega
                case rel => exact ⟨(wrap64 (x3_1 + 1)), zz, H', ⟨by have := HK1.out; have := HJ3.out; omega⟩, ⟨zb1 HB GE111⟩⟩
              ·rw [if_neg c42] at H
               exact absurd H (by simp)
             ·rw [if_neg c41] at H
              exact absurd H (by simp)
            ·rw [if_neg c39] at H
             have c39b0 : decide (0 < (t119.length : Int)) = false := jd c39
             have c39b1 : decide (0 < t119.length) = false := jd (by omega)
             clear c39
             have H' := jA H
             clear H
             try go_wp2
             have n0_ := jA (jb BK111.out)
             have n1_ := jA (jQ HB.out)
             clear BK111
             clear HB
             have BK111 := n0_
             have HB := n1_
             clear n0_ n1_
             have q55 : (x3_1 : Int) ≤ ((l0.length : Int) : Int) := jC za
             obtain ⟨i055, hi055, _, hsz55, _⟩ := info_parts info36
             have hroom55 : l0.length ≤ c0 := HC0.out
             have hC55 : Kd.C k36 _ (some ad110) l0.length l0 := HR0.out
             (try clear hcut29)
             (try clear hcut35)
             (try clear hcut45)
             (try clear hcut50)
             have hcut55 := cut_to (P := Try.prog) 25 36 .i64 Try.underlying25 hi055 (some ad110) l0.length c0 x3_1 (jC za) q55 hroom55
             have hr55 := Kd.C_take (m := (x3_1 : Int).toNat) hC55 (by omega)
             have hy55 : y115.length = (x3_1 : Int).toNat := (by rw [Ny115.out, List.length_take]; omega)
             rw [← Ny115.out] at hr55
             rw [← hy55] at hcut55
             have HR118 := jA hr55
             have HC118 := jA (show y115.length ≤ c0 from by omega)
             clear hr55 hC55 hroom55 hi055 hsz55
             have KY55 := jA hy55
             clear hy55
             replace q55 := eq_true q55
             refine start_ (n := 11) (S := fun w' => w'.cell? ⟨gb111, 0, none⟩ = some (.int .i64 ((rd_T36 l0 x3_1).f0)) ∧ w'.cell? ⟨gb111, 1, none⟩ = some (.int .i64 ((rd_T36 l0 x3_1).f1)) ∧ w'.cell? ⟨gb111, 2, none⟩ = some (.bool ((rd_T36 l0 x3_1).f2))) (ds := []) m11_0 zr rfl rfl ⟨(jE BK111.out 0).trans rfl, (jE BK111.out 1).trans rfl, (jE BK111.out 2).trans rfl⟩ (fun hHeld => ?_); refine with_tabW spec_AreTries.tab7 spec_AreTries.bits7 (fun HT_ HW_ => ?_)
             generalize wc.drew = w54 at BK111 HB HR118 hHeld ⊢
             refine zp HT_ 0 44 m11_400 ?_
             refine zp HT_ 1 45 m11_600 ?_
             refine zp HT_ 2 46 m11_700 ?_
             refine zp HT_ 3 47 m11_780 ?_
             refine zt3 HT_ HW_ hHeld 4 48 m11_7c0 ?_
             refine one_ (i := 5) (N := some 49) m11_7e0 rfl rfl (one_of HT_.out zr) (by decide) (fun K hK => ?_)
             refine goes_ Try.func48 zr rfl #[.slice (some ad110) y115.length c0, .int .i64 ((rd_T36 l0 x3_1).f0)] (by rfl) rfl rfl zm ?_
             with_reducible refine (spec_l24Of.calls kj3 _ _ y115 ((rd_T36 l0 x3_1).f0) t119 false _ ?side1 ?side2 A26.out).mono ?_
             (case side1 => exact zs HR118 HB)
             (case side2 => exact HC118.out)
             rintro e w56 ⟨v121, rfl, ho0, hb⟩
             refine ⟨_, rfl, ?_⟩
             have n0_ := jA (jZ ho0 (jT (zb1 HB GE111)))
             have n1_ := jA (blk_below (g := gb111) (o := .cells #[.int .i64 ((rd_T36 l0 x3_1).f0), .int .i64 ((rd_T36 l0 x3_1).f1), .bool ((rd_T36 l0 x3_1).f2)] 36 (0, 0)) (zk BK111) hb)
             have n2_ := jA (jM (zb1 HB GE111) hb)
             clear BK111
             clear HB
             have HO122 := n0_
             have BK111 := n1_
             have HB := n2_
             clear n0_ n1_ n2_
             (try clear hb)
             (try clear hb2)
             (try clear hk)
             (try clear hi)
             (try clear ho0)
             refine hK.out _ _ ⟨(jE BK111.out 0).trans rfl, (jE BK111.out 1).trans rfl, (jE BK111.out 2).trans rfl⟩ (fun hHeld => ?_)
             clear hK K
             refine norm_ (a' := ?_) ?_ ?_
             rotate_left
             ·show Act.put _ (some 49) _ = _
              simp only [Act.put, jB, jI, jJ, i64_w, i32_w]
              rfl
             refine zp HT_ 6 43 m11_7f0 ?_
             refine zp HT_ 7 50 m11_7f8 ?_
             refine zp HT_ 8 51 m11_7fc ?_
             refine zp HT_ 9 5 m11_7fe ?_
             refine zp HT_ 10 6 m11_7ff ?_
             refine done_ (done_of HT_.out zr) ?_
             obtain ⟨Ao57, co57, eo57⟩ := Kd.R_slice HO122.out
             subst eo57
             try go_wp2
             have n0_ := jA (jK HO122.out)
             have n1_ := jA (jb BK111.out)
             have n2_ := jA (jQ HB.out)
             clear HO122
             clear BK111
             clear HB
             have HO122 := n0_
             have BK111 := n1_
             have HB := n2_
             clear n0_ n1_ n2_
             refine start_ (n := 20) (S := fun w' => True) (ds := []) m20_0 zr rfl rfl trivial (fun hHeld => ?_); refine with_tabW spec_AreTries.tab9 spec_AreTries.bits9 (fun HT_ HW_ => ?_)
             generalize w56.drew = w58 at HO122 BK111 HB hHeld ⊢
             refine zp HT_ 0 54 m20_80000 ?_
             refine zp HT_ 1 55 m20_c0000 ?_
             refine zp HT_ 2 56 m20_e0000 ?_
             refine zp HT_ 3 57 m20_f0000 ?_
             refine zp HT_ 4 58 m20_f8000 ?_
             refine zp HT_ 5 59 m20_fc000 ?_
             refine zp HT_ 6 60 m20_fe000 ?_
             refine zp HT_ 7 61 m20_ff000 ?_
             refine zp HT_ 8 62 m20_ff800 ?_
             refine zq HT_ 9 63 m20_ffc00 ?_
             refine zq HT_ 10 64 m20_ffe00 ?_
             refine zq HT_ 11 65 m20_fff00 ?_
             refine zq HT_ 12 66 m20_fff80 ?_
             refine zq HT_ 13 67 m20_fffc0 ?_
             refine zq HT_ 14 68 m20_fffe0 ?_
             refine zq HT_ 15 69 m20_ffff0 ?_
             refine zq HT_ 16 70 m20_ffff8 ?_
             refine zq HT_ 17 71 m20_ffffc ?_
             refine zp HT_ 18 72 m20_ffffe ?_
             refine zp HT_ 19 73 m20_fffff ?_
             refine done_ (done_of HT_.out zr) ?_
             try go_wp2
             go_roundg kj3
             case measure => have := HK1.out; have := HJ3.out; omega
             case rel => exact ⟨(wrap64 (x3_1 + 1)), zz, H', ⟨by have := HK1.out; have := HJ3.out; omega⟩, ⟨zb1 HB GE111⟩⟩
         ·rw [if_neg c25] at H
          exact absurd H (by simp)
        ·rw [if_neg c24] at H
         exact absurd H (by simp)
    ·rw [if_neg c3] at H
     exact absurd H (by simp)
   ·rw [if_neg c2] at H
    have c2b0 : decide (x3_1 < (l0.length : Int)) = false := jd c2
    clear c2
    obtain rfl := jV H
    go_wp2
    go_ret
    exact ⟨by first | rfl | (simp [errW_none, errW_some] <;> rfl) | (simp [*, errW_none, errW_some] <;> rfl), zb0 HB⟩

end Go.Proofs.Ythnpffomoaeeoaa.PFnCueStates
