/- Functions and contracts that FnCueStates reaches (4 of 11). -/
import Derived.Test.YthnpffomoaeeoaaQFnCueStatesx2
namespace Go.Proofs.Ythnpffomoaeeoaa.PFnCueStates
open Go.RowKit Go.Proofs.YthnpffomoaeeoaaW.PrintWords Go.Proofs.YthnpffomoaeeoaaW.PrintLast Go.Proofs.YthnpffomoaeeoaaW.PrintMore
attribute [local go_sem] max2_int min2_int max_two min_two max_three min_three max_four min_four   -- for this text's walks alone
set_option linter.unusedVariables false
set_option linter.unusedSimpArgs false

/-! ### impl_AreTries: function 16 -/
mutual
def impl_AreTries.l0 : Nat → List (S36) → List (S36) → Int → Int → Option (Bool)
 | 0, _, _, _, _ => none
 | k + 1, x0, x9, x10, x11 => if x11 < x10 then (if 0 ≤ x11 then (if x11 < (x9.length : Int) then ((impl_isCue.f ((rd_T36 x9 x11).f0)).bind fun t154 => (if t154 = true then ((impl_isTick.f ((rd_T36 x9 x11).f1)).bind fun t155 => (impl_AreTries.j1 k x0 x11 x9 x10 x11 (!t155) ((rd_T36 x9 x11).f0) ((rd_T36 x9 x11).f1) ((rd_T36 x9 x11).f2))) else (impl_AreTries.j1 k x0 x11 x9 x10 x11 true ((rd_T36 x9 x11).f0) ((rd_T36 x9 x11).f1) ((rd_T36 x9 x11).f2)))) else (none)) else (none)) else (some true)
def impl_AreTries.j1 : Nat → List (S36) → Int → List (S36) → Int → Int → Bool → Int → Int → Bool → Option (Bool)
 | 0, _, _, _, _, _, _, _, _, _ => none
 | k + 1, x0, x3, x9, x10, x11, x25, x154000, x154001, x154002 => if x25 = true then (some false) else (if 0 ≤ x3 then (if x3 ≤ (x0.length : Int) then ((impl_cueState.f k (x0.take (x3 : Int).toNat) x154000).bind fun t160 => (if t160 = 2 then (some false) else (if t160 = 3 then (some false) else ((impl_nextTick.f k (x0.take (x3 : Int).toNat) x154000).bind fun t165 => (if x154001 < t165 then (some false) else (impl_AreTries.l0 k x0 x9 x10 (wrap64 (x11 + 1)))))))) else (none)) else (none))
end
def impl_AreTries.f (k : Nat) (l0 : List (S36)) : Option (Bool) := if (l0.length : Int) > 40 then (some false) else (impl_AreTries.l0 k l0 l0 (l0.length : Int) 0)
theorem impl_AreTries.mono_l : ∀ k, (∀ y0 y1 y2 y3, LeO (impl_AreTries.l0 k y0 y1 y2 y3) (impl_AreTries.l0 (k + 1) y0 y1 y2 y3)) ∧ (∀ y0 y1 y2 y3 y4 y5 y6 y7 y8, LeO (impl_AreTries.j1 k y0 y1 y2 y3 y4 y5 y6 y7 y8) (impl_AreTries.j1 (k + 1) y0 y1 y2 y3 y4 y5 y6 y7 y8))
 | 0 => ⟨fun _ _ _ _ r h => by simp [impl_AreTries.l0] at h, fun _ _ _ _ _ _ _ _ _ r h => by simp [impl_AreTries.j1] at h⟩
 | k + 1 => by
  obtain ⟨ih0, ih1⟩ := impl_AreTries.mono_l k
  refine ⟨?_, ?_⟩
  ·intro y0 y1 y2 y3
   unfold impl_AreTries.l0
   repeat' first
   | (with_reducible exact ih0 _ _ _ _)
   | (with_reducible exact ih1 _ _ _ _ _ _ _ _ _)
   | (with_reducible exact impl_cueState.mono _ _ _)
   | (with_reducible exact impl_nextTick.mono _ _ _)
   | (with_reducible exact LeO.refl _)
   | (with_reducible exact LeO.none _)
   | (with_reducible refine LeO.ite ?_ ?_)
   | (with_reducible refine LeO.bind ?_ (fun _ => ?_))
   | exact ih0 _ _ _ _
   | exact ih1 _ _ _ _ _ _ _ _ _
   | exact impl_cueState.mono _ _ _
   | exact impl_nextTick.mono _ _ _
   | exact LeO.none _
   | refine LeO.ite ?_ ?_
   | refine LeO.bind ?_ (fun _ => ?_)
  ·intro y0 y1 y2 y3 y4 y5 y6 y7 y8
   unfold impl_AreTries.j1
   repeat' first
   | (with_reducible exact ih0 _ _ _ _)
   | (with_reducible exact ih1 _ _ _ _ _ _ _ _ _)
   | (with_reducible exact impl_cueState.mono _ _ _)
   | (with_reducible exact impl_nextTick.mono _ _ _)
   | (with_reducible exact LeO.refl _)
   | (with_reducible exact LeO.none _)
   | (with_reducible refine LeO.ite ?_ ?_)
   | (with_reducible refine LeO.bind ?_ (fun _ => ?_))
   | exact ih0 _ _ _ _
   | exact ih1 _ _ _ _ _ _ _ _ _
   | exact impl_cueState.mono _ _ _
   | exact impl_nextTick.mono _ _ _
   | exact LeO.none _
   | refine LeO.ite ?_ ?_
   | refine LeO.bind ?_ (fun _ => ?_)
theorem impl_AreTries.mono : ∀ a0 k, LeO (impl_AreTries.f k a0) (impl_AreTries.f (k + 1) a0) := by
 intro a0 k
 obtain ⟨ih0, ih1⟩ := impl_AreTries.mono_l k
 unfold impl_AreTries.f
 repeat' first
   | (with_reducible exact ih0 _ _ _ _)
   | (with_reducible exact ih1 _ _ _ _ _ _ _ _ _)
   | (with_reducible exact impl_cueState.mono _ _ _)
   | (with_reducible exact impl_nextTick.mono _ _ _)
   | (with_reducible exact LeO.refl _)
   | (with_reducible exact LeO.none _)
   | (with_reducible refine LeO.ite ?_ ?_)
   | (with_reducible refine LeO.bind ?_ (fun _ => ?_))
   | exact ih0 _ _ _ _
   | exact ih1 _ _ _ _ _ _ _ _ _
   | exact impl_cueState.mono _ _ _
   | exact impl_nextTick.mono _ _ _
   | exact LeO.none _
   | refine LeO.ite ?_ ?_
   | refine LeO.bind ?_ (fun _ => ?_)
def impl_AreTries.T9 : Bool × List (List Nat × List Nat) := (true, [([], []), ([0], [0]), ([1], [1]), ([2], [2]), ([3, 2], [2, 3]), ([2, 4], [2, 4]), ([5, 2], [5]), ([6], [6]), ([7, 6], [6, 7]), ([6], [6]), ([6], [6]), ([9, 10, 6], [6, 9, 10]), ([6], [6]), ([12, 6], [6, 12]), ([11, 13, 6, 6], [6, 11, 13]), ([8, 14, 6], [6, 8, 14]), ([6, 15], [6, 15])])
def impl_AreTries.B9 : List Nat := [0, 1, 3, 7, 15, 31, 63, 127, 255, 127, 127, 1663, 127, 4223, 15999, 32767, 65535]
theorem impl_AreTries.tab9 : rtab .any (opsOf Try.f16 9) = impl_AreTries.T9 := by kernel_rfl
theorem impl_AreTries.bits9 : waitsOk impl_AreTries.T9.2 impl_AreTries.B9 = true := by kernel_rfl
set_option maxHeartbeats 8000000 in
set_option maxRecDepth 100000 in
theorem impl_AreTries.calls (k : Nat) (A0 : Option Addr) (c0 : Nat) (l0 : List (S36)) (r : Bool) (w : World) (hr0 : Kd.C k36 w A0 l0.length l0) (hc0 : l0.length ≤ c0) (h : impl_AreTries.f k l0 = some r) :
  Calls Try.prog 16 #[.slice A0 l0.length c0] w fun e w' => e = .returned (.bool r) ∧ Below w.heap.size w w' := by
 have hu36 := Try.underlying36
 have HR0 := jA hr0
 have HC0 := jA hc0
 clear hr0 hc0
 have HB := jA (Below.refl w.heap.size w)
 have H : (if (l0.length : Int) > 40 then (some false) else (impl_AreTries.l0 k l0 l0 (l0.length : Int) 0)) = some r := h
 clear h
 by_cases c2 : (l0.length : Int) > 40
 ·rw [if_pos c2] at H
  have c2b0 : decide (40 < (l0.length : Int)) = true := jN c2
  have c2b1 : decide (40 < l0.length) = true := jN (by omega)
  clear c2
  obtain rfl := jV H
  go_enter Try.func16, Try.ntmps16
  go_wp2
  go_ret
  exact ⟨by first | rfl | (simp [errW_none, errW_some] <;> rfl) | (simp [*, errW_none, errW_some] <;> rfl), zb0 HB⟩
 ·rw [if_neg c2] at H
  have c2b0 : decide (40 < (l0.length : Int)) = false := jd c2
  have c2b1 : decide (40 < l0.length) = false := jd (by omega)
  clear c2
  have H' := jA H
  clear H
  go_enter Try.func16, Try.ntmps16
  go_wp2
  go_loopg [11] k (fun kq v11 w' => ∃ (x11_1 : Int), v11 = .int .i64 x11_1 ∧ Aside0 (impl_AreTries.l0 kq l0 l0 (l0.length : Int) x11_1 = some r) ∧ Aside0 (kq ≤ k) ∧ Aside0 (Below w.heap.size w w'))
  case atStart => exact ⟨(0), zz, H', ⟨Nat.le_refl _⟩, ⟨zb0 HB⟩⟩
  case round =>
   clear H'
   try clear c1
   try clear c2
   try clear c2b0
   try clear c2b1
   try clear p2
   obtain ⟨x11_1, rfl, HA, HK1, HB⟩ := hrel
   cases gk with
   | zero => exact absurd HA.out (by simp [impl_AreTries.l0])
   | succ k1 =>
    have H := HA.out
    clear HA
    simp only [impl_AreTries.l0] at H
    by_cases c3 : x11_1 < (l0.length : Int)
    ·rw [if_pos c3] at H
     have c3b0 : decide (x11_1 < (l0.length : Int)) = true := jN c3
     clear c3
     by_cases c4 : 0 ≤ x11_1
     ·rw [if_pos c4] at H
      have c4b0 : decide (0 ≤ x11_1) = true := jN c4
      clear c4
      by_cases c5 : x11_1 < (l0.length : Int)
      ·rw [if_pos c5] at H
       have c5b0 : decide (x11_1 < (l0.length : Int)) = true := jN c5
       clear c5
       have HC6 := jA H
       clear H
       have p152 : 0 ≤ (x11_1 : Int) := jC za
       have q152 : x11_1 < (l0.length : Int) := jC za
       obtain ⟨ad152, e152, hx152_0, hx152_1, hx152_2⟩ := at_T36 HR0.out x11_1 p152 q152
       cases e152
       replace hx152_0 := (HB.out.cell (jR w _ hx152_0)).trans hx152_0
       replace hx152_1 := (HB.out.cell (jR w _ hx152_1)).trans hx152_1
       replace hx152_2 := (HB.out.cell (jR w _ hx152_2)).trans hx152_2
       replace p152 := eq_true p152
       replace q152 := eq_true q152
       go_upto_region 6 with (first | ((with_reducible refine gate_dst (N := 4) rfl ?_); refine box_event ?hg (N := 4) ?hd (cs := #[.int .i64 0, .int .i64 0, .bool false]) (t := 36) ?hr ?_; (case hd => rfl); (case hg => rfl); (case hr => first | (go_simp; done) | (go_simp; rfl)); intro gb153 hg w7 hbox hb; have n0_ := jA (jM (zb0 HB) hb); have n1_ := jA (hbox); have n2_ := jA ((by rw [hg]; exact (jT (zb0 HB)) : w.heap.size ≤ gb153)); have n3_ := jA ((by rw [hg]; exact (jT (zb0 HB)) : w.heap.size ≤ gb153)); clear HB; have HB := n0_; have BK153 := n1_; have GW153 := n2_; have GE153 := n3_; clear n0_ n1_ n2_ n3_; clear hb hbox hg; have hcz8_0 : w7.cell? ⟨gb153, 0, none⟩ = some (.int .i64 0) := (jE BK153.out 0).trans rfl; have hcz8_1 : w7.cell? ⟨gb153, 1, none⟩ = some (.int .i64 0) := (jE BK153.out 1).trans rfl; have hcz8_2 : w7.cell? ⟨gb153, 2, none⟩ = some (.bool false) := (jE BK153.out 2).trans rfl; have hfz8_0 := je BK153.out 0; have hfz8_1 := je BK153.out 1; have hfz8_2 := je BK153.out 2))
       (try simp only [Act.put, jB, jI, jJ])
       go_cut [25] (fun v25 wc => ∃ (kq : Nat) (x25_5 : Bool), v25 = .bool x25_5 ∧ Aside0 (impl_AreTries.j1 kq l0 x11_1 l0 (l0.length : Int) x11_1 x25_5 ((rd_T36 l0 x11_1).f0) ((rd_T36 l0 x11_1).f1) ((rd_T36 l0 x11_1).f2) = some r) ∧ Aside0 (kq ≤ k1) ∧ Aside0 (wc.heap[gb153]? = some (.cells #[.int .i64 ((rd_T36 l0 x11_1).f0), .int .i64 ((rd_T36 l0 x11_1).f1), .bool ((rd_T36 l0 x11_1).f2)] 36 (0, 0))) ∧ Aside0 (Below w.heap.size w wc))
       case first =>
        have H := HC6.out
        clear HC6
        replace H := jD.mp H
        obtain ⟨t154, A90, H⟩ := H
        replace H : (if t154 = true then ((impl_isTick.f ((rd_T36 l0 x11_1).f1)).bind fun t155 => (impl_AreTries.j1 k1 l0 x11_1 l0 (l0.length : Int) x11_1 (!t155) ((rd_T36 l0 x11_1).f0) ((rd_T36 l0 x11_1).f1) ((rd_T36 l0 x11_1).f2))) else (impl_AreTries.j1 k1 l0 x11_1 l0 (l0.length : Int) x11_1 true ((rd_T36 l0 x11_1).f0) ((rd_T36 l0 x11_1).f1) ((rd_T36 l0 x11_1).f2))) = some r := H
        have A9 := jA A90
        clear A90
        by_cases c10 : t154 = true
        ·subst c10
         have H1 : ((impl_isTick.f ((rd_T36 l0 x11_1).f1)).bind fun t155 => (impl_AreTries.j1 k1 l0 x11_1 l0 (l0.length : Int) x11_1 (!t155) ((rd_T36 l0 x11_1).f0) ((rd_T36 l0 x11_1).f1) ((rd_T36 l0 x11_1).f2))) = some r := by rw [if_pos rfl] at H; exact H
         clear H
         have H := H1
         clear H1
         replace H := jD.mp H
         obtain ⟨t155, A110, H⟩ := H
         replace H : (impl_AreTries.j1 k1 l0 x11_1 l0 (l0.length : Int) x11_1 (!t155) ((rd_T36 l0 x11_1).f0) ((rd_T36 l0 x11_1).f1) ((rd_T36 l0 x11_1).f2)) = some r := H
         have A11 := jA A110
         clear A110
         have H' := jA H
         clear H
         have hcz12_0 : w7.cell? ⟨gb153, 0, none⟩ = some (.int .i64 0) := (jE BK153.out 0).trans rfl
         have hcz12_1 : w7.cell? ⟨gb153, 1, none⟩ = some (.int .i64 0) := (jE BK153.out 1).trans rfl
         have hcz12_2 : w7.cell? ⟨gb153, 2, none⟩ = some (.bool false) := (jE BK153.out 2).trans rfl
         have hfz12_0 := je BK153.out 0
         have hfz12_1 := je BK153.out 1
         have hfz12_2 := je BK153.out 2
         go_wp2_with (first | ((with_reducible refine jL (f := 51) rfl ?_); refine goesL_ (some 18) rfl rfl Try.func51 zr rfl #[.int .i64 ((rd_T36 l0 x11_1).f0)] rfl zm ?_; (with_reducible refine (impl_isCue.calls ((rd_T36 l0 x11_1).f0) true _ A9.out).mono ?_); rintro e w' ⟨rfl, ⟨nd, rfl⟩⟩; refine ⟨_, rfl, ?_⟩) | (go_at_call 52; (with_reducible refine (impl_isTick.calls ((rd_T36 l0 x11_1).f1) t155 _ A11.out).mono ?_); rintro e w' ⟨rfl, ⟨nd, rfl⟩⟩))
         go_meet
         case rel => exact ⟨_, (!t155), zz, H', ⟨by have := HK1.out; first | omega | exact Nat.le_refl _⟩, ⟨by (with_reducible repeat (first | refine blk_drewN ?_ _ | refine jb ?_ | refine blk_alloc ?_ _)); refine blk_put (cs := #[.int .i64 ((rd_T36 l0 x11_1).f0), .int .i64 ((rd_T36 l0 x11_1).f1), .bool false]) ?_ 2 _ rfl; (with_reducible repeat (first | refine blk_drewN ?_ _ | refine jb ?_ | refine blk_alloc ?_ _)); refine blk_put (cs := #[.int .i64 ((rd_T36 l0 x11_1).f0), .int .i64 0, .bool false]) ?_ 1 _ rfl; (with_reducible repeat (first | refine blk_drewN ?_ _ | refine jb ?_ | refine blk_alloc ?_ _)); refine blk_put (cs := #[.int .i64 0, .int .i64 0, .bool false]) ?_ 0 _ rfl; (with_reducible repeat (first | refine blk_drewN ?_ _ | refine jb ?_ | refine blk_alloc ?_ _)); exact BK153.out⟩, ⟨zb1 HB GE153⟩⟩
        ·replace c10 := Bool.eq_false_iff.mpr c10
         subst c10
         have H1 : (impl_AreTries.j1 k1 l0 x11_1 l0 (l0.length : Int) x11_1 true ((rd_T36 l0 x11_1).f0) ((rd_T36 l0 x11_1).f1) ((rd_T36 l0 x11_1).f2)) = some r := by rw [if_neg (show ¬ (false = true) by decide)] at H; exact H
         clear H
         have H := H1
         clear H1
         have H' := jA H
         clear H
         have hcz13_0 : w7.cell? ⟨gb153, 0, none⟩ = some (.int .i64 0) := (jE BK153.out 0).trans rfl
         have hcz13_1 : w7.cell? ⟨gb153, 1, none⟩ = some (.int .i64 0) := (jE BK153.out 1).trans rfl
         have hcz13_2 : w7.cell? ⟨gb153, 2, none⟩ = some (.bool false) := (jE BK153.out 2).trans rfl
         have hfz13_0 := je BK153.out 0
         have hfz13_1 := je BK153.out 1
         have hfz13_2 := je BK153.out 2
         go_wp2_with (first | ((with_reducible refine jL (f := 51) rfl ?_); refine goesL_ (some 18) rfl rfl Try.func51 zr rfl #[.int .i64 ((rd_T36 l0 x11_1).f0)] rfl zm ?_; (with_reducible refine (impl_isCue.calls ((rd_T36 l0 x11_1).f0) false _ A9.out).mono ?_); rintro e w' ⟨rfl, ⟨nd, rfl⟩⟩; refine ⟨_, rfl, ?_⟩))
         go_meet
         case rel => exact ⟨_, (true), zz, H', ⟨by have := HK1.out; first | omega | exact Nat.le_refl _⟩, ⟨by (with_reducible repeat (first | refine blk_drewN ?_ _ | refine jb ?_ | refine blk_alloc ?_ _)); refine blk_put (cs := #[.int .i64 ((rd_T36 l0 x11_1).f0), .int .i64 ((rd_T36 l0 x11_1).f1), .bool false]) ?_ 2 _ rfl; (with_reducible repeat (first | refine blk_drewN ?_ _ | refine jb ?_ | refine blk_alloc ?_ _)); refine blk_put (cs := #[.int .i64 ((rd_T36 l0 x11_1).f0), .int .i64 0, .bool false]) ?_ 1 _ rfl; (with_reducible repeat (first | refine blk_drewN ?_ _ | refine jb ?_ | refine blk_alloc ?_ _)); refine blk_put (cs := #[.int .i64 0, .int .i64 0, .bool false]) ?_ 0 _ rfl; (with_reducible repeat (first | refine blk_drewN ?_ _ | refine jb ?_ | refine blk_alloc ?_ _)); exact BK153.out⟩, ⟨zb1 HB GE153⟩⟩
       case rest =>
        clear HC6
        try clear c1
        try clear p1
        try clear q1
        try clear hx1
        try clear c2
        try clear c2b0
        try clear c2b1
        try clear p2
        try clear c3
        try clear c3b0
        try clear c4
        try clear c4b0
        try clear c5
        try clear c5b0
        try clear c10
        try clear hcz12_0
        try clear hcz12_1
        try clear hcz12_2
        try clear hcz13_0
        try clear hcz13_1
        try clear hcz13_2
        try clear hcz8_0
        try clear hcz8_1
        try clear hcz8_2
        try clear hfz12_0
        try clear hfz12_1
        try clear hfz12_2
        try clear hfz13_0
        try clear hfz13_1
        try clear hfz13_2
        try clear hfz8_0
        try clear hfz8_1
        try clear hfz8_2
        try clear hx152_0
        try clear hx152_1
        try clear hx152_2
        try clear p152
        try clear p2
        try clear q152
        obtain ⟨kq, x25_5, rfl, HA, HJ5, BK153, HB⟩ := hcut
        cases kq with
        | zero => exact absurd HA.out (by simp [impl_AreTries.j1])
        | succ kj5 =>
         have H := HA.out
         clear HA
         simp only [impl_AreTries.j1] at H
         by_cases c14 : x25_5 = true
         ·subst c14
          have H1 : (some false) = some r := by rw [if_pos rfl] at H; exact H
          clear H
          have H := H1
          clear H1
          obtain rfl := jV H
          go_wp2
          go_ret
          exact ⟨by first | rfl | (simp [errW_none, errW_some] <;> rfl) | (simp [*, errW_none, errW_some] <;> rfl), zb1 HB GE153⟩
         ·replace c14 := Bool.eq_false_iff.mpr c14
          subst c14
          have H1 : (if 0 ≤ x11_1 then (if x11_1 ≤ (l0.length : Int) then ((impl_cueState.f kj5 (l0.take (x11_1 : Int).toNat) ((rd_T36 l0 x11_1).f0)).bind fun t160 => (if t160 = 2 then (some false) else (if t160 = 3 then (some false) else ((impl_nextTick.f kj5 (l0.take (x11_1 : Int).toNat) ((rd_T36 l0 x11_1).f0)).bind fun t165 => (if ((rd_T36 l0 x11_1).f1) < t165 then (some false) else (impl_AreTries.l0 kj5 l0 l0 (l0.length : Int) (wrap64 (x11_1 + 1)))))))) else (none)) else (none)) = some r := by rw [if_neg (show ¬ (false = true) by decide)] at H; exact H
          clear H
          have H := H1
          clear H1
          by_cases c15 : 0 ≤ x11_1
          ·rw [if_pos c15] at H
           have c15b0 := eq_true c15
           have c15b1 : decide (0 ≤ x11_1) = true := jN c15
           clear c15
           by_cases c16 : x11_1 ≤ (l0.length : Int)
           ·rw [if_pos c16] at H
            have c16b0 := eq_true c16
            have c16b1 : decide (x11_1 ≤ (l0.length : Int)) = true := jN c16
            clear c16
            obtain ⟨y156, hy156⟩ : ∃ y_ : List (S36), y_ = (l0.take (x11_1 : Int).toNat) := ⟨_, rfl⟩
            replace H : ((impl_cueState.f kj5 y156 ((rd_T36 l0 x11_1).f0)).bind fun t160 => (if t160 = 2 then (some false) else (if t160 = 3 then (some false) else ((impl_nextTick.f kj5 (l0.take (x11_1 : Int).toNat) ((rd_T36 l0 x11_1).f0)).bind fun t165 => (if ((rd_T36 l0 x11_1).f1) < t165 then (some false) else (impl_AreTries.l0 kj5 l0 l0 (l0.length : Int) (wrap64 (x11_1 + 1)))))))) = some r := by first | (rw [hy156]; with_reducible exact H) | (have H2_ := (Option.bind_some _ _).symm.trans H; rw [hy156]; with_reducible exact H2_) | (have H2_ := (Option.bind_some _ _).symm.trans H; with_reducible exact H2_) | with_reducible exact H | (rw [hy156]; exact H) | exact H
            have Ny156 := jA hy156
            clear hy156
            replace H := jD.mp H
            obtain ⟨t160, A170, H⟩ := H
            replace H : (if t160 = 2 then (some false) else (if t160 = 3 then (some false) else ((impl_nextTick.f kj5 (l0.take (x11_1 : Int).toNat) ((rd_T36 l0 x11_1).f0)).bind fun t165 => (if ((rd_T36 l0 x11_1).f1) < t165 then (some false) else (impl_AreTries.l0 kj5 l0 l0 (l0.length : Int) (wrap64 (x11_1 + 1))))))) = some r := H
            have A17 := jA A170
            clear A170
            by_cases c18 : t160 = 2
            ·rw [if_pos c18] at H
             have c18b0 : (t160 == 2) = true := beq_iff_eq.mpr c18
             have c18b1 : (t160 != 2) = false := bne_eq_false_iff_eq.mpr c18
             clear c18
             obtain rfl := jV H
             try go_wp2
             have n0_ := jA (jb BK153.out)
             have n1_ := jA (jQ HB.out)
             clear BK153
             clear HB
             have BK153 := n0_
             have HB := n1_
             clear n0_ n1_
             have q20 : (x11_1 : Int) ≤ ((l0.length : Int) : Int) := jC za
             obtain ⟨i020, hi020, _, hsz20, _⟩ := info_parts info36
             have hroom20 : l0.length ≤ c0 := HC0.out
             have hC20 : Kd.C k36 _ (some ad152) l0.length l0 := HR0.out
             have hcut20 := cut_to (P := Try.prog) 25 36 .i64 Try.underlying25 hi020 (some ad152) l0.length c0 x11_1 (jC za) q20 hroom20
             have hr20 := Kd.C_take (m := (x11_1 : Int).toNat) hC20 (by omega)
             have hy20 : y156.length = (x11_1 : Int).toNat := (by rw [Ny156.out, List.length_take]; omega)
             rw [← Ny156.out] at hr20
             rw [← hy20] at hcut20
             have HR159 := jA hr20
             have HC159 := jA (show y156.length ≤ c0 from by omega)
             clear hr20 hC20 hroom20 hi020 hsz20
             have KY20 := jA hy20
             clear hy20
             replace q20 := eq_true q20
             refine start_ (n := 7) (S := fun w' => w'.cell? ⟨gb153, 0, none⟩ = some (.int .i64 ((rd_T36 l0 x11_1).f0)) ∧ w'.cell? ⟨gb153, 1, none⟩ = some (.int .i64 ((rd_T36 l0 x11_1).f1)) ∧ w'.cell? ⟨gb153, 2, none⟩ = some (.bool ((rd_T36 l0 x11_1).f2))) (ds := []) m7_0 zr rfl rfl ⟨(jE BK153.out 0).trans rfl, (jE BK153.out 1).trans rfl, (jE BK153.out 2).trans rfl⟩ (fun hHeld => ?_)
             generalize wc.drew = w19 at BK153 HB HR159 hHeld ⊢
             refine pure_ (i := 0) (N := some 26) (v := ?_) (a' := ?_) m7_40 rfl rfl zr (fun _ _ _ h => h) (Or.inl ⟨by rfl, ?_⟩) ?_ ?_
             rotate_left
             ·intro w'
              go_simp
              with_reducible rfl
             rotate_left
             ·simp only [Act.put, jB, jI, jJ, i64_w, i32_w]
              rfl
             refine pure_ (i := 1) (N := some 27) (v := ?_) (a' := ?_) m7_60 rfl rfl zr (fun _ _ _ h => h) (Or.inl ⟨by rfl, ?_⟩) ?_ ?_
             rotate_left
             ·intro w'
              go_simp
              with_reducible rfl
             rotate_left
             ·simp only [Act.put, jB, jI, jJ, i64_w, i32_w]
              rfl
             refine pure_ (i := 2) (N := some 28) (v := ?_) (a' := ?_) m7_70 rfl rfl zr (fun _ _ _ h => h) (Or.inl ⟨by rfl, ?_⟩) ?_ ?_
             rotate_left
             ·intro w'
              go_simp
              with_reducible rfl
             rotate_left
             ·simp only [Act.put, jB, jI, jJ, i64_w, i32_w]
              rfl
             refine pure_ (i := 3) (N := some 29) (v := ?_) (a' := ?_) m7_78 rfl rfl zr (fun _ _ _ h => h) (Or.inl ⟨by rfl, ?_⟩) ?_ ?_
             rotate_left
             ·intro w'
              go_simp
              with_reducible rfl
             rotate_left
             ·simp only [Act.put, jB, jI, jJ, i64_w, i32_w]
              rfl
             refine take_ (i := 4) (N := some 30) (v := ?_) (a' := ?_) m7_7c rfl rfl zr (fun _ _ _ h => h) (Or.inl ⟨by rfl, ?_⟩) hHeld ?_ ?_
             rotate_left
             ·rintro w' ⟨s0, s1, s2⟩
              go_simp
              with_reducible rfl
             rotate_left
             ·simp only [Act.put, jB, jI, jJ, i64_w, i32_w]
              rfl
             refine one_ (i := 5) (N := some 31) m7_7e rfl rfl zr (by decide) (fun K hK => ?_)
             refine goes_ Try.func53 zr rfl #[.slice (some ad152) y156.length c0, .int .i64 ((rd_T36 l0 x11_1).f0)] (by rfl) rfl rfl zm ?_
             with_reducible refine (impl_cueState.calls kj5 _ _ y156 ((rd_T36 l0 x11_1).f0) t160 _ ?side1 ?side2 A17.out).mono ?_
             (case side1 => exact zs HR159 HB)
             (case side2 => exact HC159.out)
             rintro e w21 ⟨rfl, hb⟩
             refine ⟨_, rfl, ?_⟩
             have n0_ := jA (blk_below (g := gb153) (o := .cells #[.int .i64 ((rd_T36 l0 x11_1).f0), .int .i64 ((rd_T36 l0 x11_1).f1), .bool ((rd_T36 l0 x11_1).f2)] 36 (0, 0)) (zk BK153) hb)
             have n1_ := jA (jM (zb1 HB GE153) hb)
             clear BK153
             clear HB
             have BK153 := n0_
             have HB := n1_
             clear n0_ n1_
             (try clear hb)
             (try clear hb2)
             (try clear hk)
             (try clear hi)
             refine hK.out _ _ ⟨(jE BK153.out 0).trans rfl, (jE BK153.out 1).trans rfl, (jE BK153.out 2).trans rfl⟩ (fun hHeld => ?_)
             clear hK K
             refine norm_ (a' := ?_) ?_ ?_
             rotate_left
             ·show Act.put _ (some 31) _ = _
              simp only [Act.put, jB, jI, jJ, i64_w, i32_w]
              rfl
             refine pure_ (i := 6) (N := some 5) (v := ?_) (a' := ?_) m7_7f rfl rfl zr (fun _ _ _ h => h) (Or.inl ⟨by rfl, ?_⟩) ?_ ?_
             rotate_left
             ·intro w'
              go_simp
              with_reducible rfl
             rotate_left
             ·simp only [Act.put, jB, jI, jJ, i64_w, i32_w]
              rfl
             refine done_ zr ?_
             try go_wp2
             have n0_ := jA (jb BK153.out)
             have n1_ := jA (jQ HB.out)
             clear BK153
             clear HB
             have BK153 := n0_
             have HB := n1_
             clear n0_ n1_
             refine start_ (n := 17) (S := fun w' => True) (ds := []) m17_0 zr rfl rfl trivial (fun hHeld => ?_); refine with_tabW impl_AreTries.tab9 impl_AreTries.bits9 (fun HT_ HW_ => ?_)
             generalize w21.drew = w22 at BK153 HB hHeld ⊢
             refine zp HT_ 0 32 m17_10000 ?_
             refine zp HT_ 1 33 m17_18000 ?_
             refine zp HT_ 2 34 m17_1c000 ?_
             refine zq HT_ 3 35 m17_1e000 ?_
             refine zq HT_ 4 36 m17_1f000 ?_
             refine zp HT_ 5 37 m17_1f800 ?_
             refine zp HT_ 6 38 m17_1fc00 ?_
             refine zq HT_ 7 39 m17_1fe00 ?_
             refine zq HT_ 8 40 m17_1ff00 ?_
             refine zq HT_ 9 41 m17_1ff80 ?_
             refine zq HT_ 10 42 m17_1ffc0 ?_
             refine zq HT_ 11 43 m17_1ffe0 ?_
             refine zq HT_ 12 44 m17_1fff0 ?_
             refine zq HT_ 13 45 m17_1fff8 ?_
             refine zq HT_ 14 46 m17_1fffc ?_
             refine zq HT_ 15 47 m17_1fffe ?_
             refine zp HT_ 16 48 m17_1ffff ?_
             refine done_ (done_of HT_.out zr) ?_
             try go_wp2
             go_ret
             exact ⟨by first | rfl | (simp [errW_none, errW_some] <;> rfl) | (simp [*, errW_none, errW_some] <;> rfl), zb1 HB GE153⟩
            ·rw [if_neg c18] at H
             have c18b0 : (t160 == 2) = false := beq_eq_false_iff_ne.mpr c18
             have c18b1 : (t160 != 2) = true := bne_iff_ne.mpr c18
             by_cases c23 : t160 = 3
             ·rw [if_pos c23] at H
              have c23b0 : (t160 == 3) = true := beq_iff_eq.mpr c23
              have c23b1 : (t160 != 3) = false := bne_eq_false_iff_eq.mpr c23
              clear c23
              obtain rfl := jV H
              try go_wp2
              have n0_ := jA (jb BK153.out)
              have n1_ := jA (jQ HB.out)
              clear BK153
              clear HB
              have BK153 := n0_
              have HB := n1_
              clear n0_ n1_
              have q25 : (x11_1 : Int) ≤ ((l0.length : Int) : Int) := jC za
              obtain ⟨i025, hi025, _, hsz25, _⟩ := info_parts info36
              have hroom25 : l0.length ≤ c0 := HC0.out
              have hC25 : Kd.C k36 _ (some ad152) l0.length l0 := HR0.out
              (try clear hcut20)
              have hcut25 := cut_to (P := Try.prog) 25 36 .i64 Try.underlying25 hi025 (some ad152) l0.length c0 x11_1 (jC za) q25 hroom25
              have hr25 := Kd.C_take (m := (x11_1 : Int).toNat) hC25 (by omega)
              have hy25 : y156.length = (x11_1 : Int).toNat := (by rw [Ny156.out, List.length_take]; omega)
              rw [← Ny156.out] at hr25
              rw [← hy25] at hcut25
              have HR159 := jA hr25
              have HC159 := jA (show y156.length ≤ c0 from by omega)
              clear hr25 hC25 hroom25 hi025 hsz25
              have KY25 := jA hy25
              clear hy25
              replace q25 := eq_true q25
              refine start_ (n := 7) (S := fun w' => w'.cell? ⟨gb153, 0, none⟩ = some (.int .i64 ((rd_T36 l0 x11_1).f0)) ∧ w'.cell? ⟨gb153, 1, none⟩ = some (.int .i64 ((rd_T36 l0 x11_1).f1)) ∧ w'.cell? ⟨gb153, 2, none⟩ = some (.bool ((rd_T36 l0 x11_1).f2))) (ds := []) m7_0 zr rfl rfl ⟨(jE BK153.out 0).trans rfl, (jE BK153.out 1).trans rfl, (jE BK153.out 2).trans rfl⟩ (fun hHeld => ?_)
              generalize wc.drew = w24 at BK153 HB HR159 hHeld ⊢
              refine pure_ (i := 0) (N := some 26) (v := ?_) (a' := ?_) m7_40 rfl rfl zr (fun _ _ _ h => h) (Or.inl ⟨by rfl, ?_⟩) ?_ ?_
              rotate_left
              ·intro w'
               go_simp
               with_reducible rfl
              rotate_left
              ·simp only [Act.put, jB, jI, jJ, i64_w, i32_w]
               rfl
              refine pure_ (i := 1) (N := some 27) (v := ?_) (a' := ?_) m7_60 rfl rfl zr (fun _ _ _ h => h) (Or.inl ⟨by rfl, ?_⟩) ?_ ?_
              rotate_left
              ·intro w'
               go_simp
               with_reducible rfl
              rotate_left
              ·simp only [Act.put, jB, jI, jJ, i64_w, i32_w]
               rfl
              refine pure_ (i := 2) (N := some 28) (v := ?_) (a' := ?_) m7_70 rfl rfl zr (fun _ _ _ h => h) (Or.inl ⟨by rfl, ?_⟩) ?_ ?_
              rotate_left
              ·intro w'
               go_simp
               with_reducible rfl
              rotate_left
              ·simp only [Act.put, jB, jI, jJ, i64_w, i32_w]
               rfl
              refine pure_ (i := 3) (N := some 29) (v := ?_) (a' := ?_) m7_78 rfl rfl zr (fun _ _ _ h => h) (Or.inl ⟨by rfl, ?_⟩) ?_ ?_
              rotate_left
              ·intro w'
               go_simp
               with_reducible rfl
              rotate_left
              ·simp only [Act.put, jB, jI, jJ, i64_w, i32_w]
               rfl
              refine take_ (i := 4) (N := some 30) (v := ?_) (a' := ?_) m7_7c rfl rfl zr (fun _ _ _ h => h) (Or.inl ⟨by rfl, ?_⟩) hHeld ?_ ?_
              rotate_left
              ·rintro w' ⟨s0, s1, s2⟩
               go_simp
               with_reducible rfl
              rotate_left
              ·simp only [Act.put, jB, jI, jJ, i64_w, i32_w]
               rfl
              refine one_ (i := 5) (N := some 31) m7_7e rfl rfl zr (by decide) (fun K hK => ?_)
              refine goes_ Try.func53 zr rfl #[.slice (some ad152) y156.length c0, .int .i64 ((rd_T36 l0 x11_1).f0)] (by rfl) rfl rfl zm ?_
              with_reducible refine (impl_cueState.calls kj5 _ _ y156 ((rd_T36 l0 x11_1).f0) t160 _ ?side1 ?side2 A17.out).mono ?_
              (case side1 => exact zs HR159 HB)
              (case side2 => exact HC159.out)
              rintro e w26 ⟨rfl, hb⟩
              refine ⟨_, rfl, ?_⟩
              have n0_ := jA (blk_below (g := gb153) (o := .cells #[.int .i64 ((rd_T36 l0 x11_1).f0), .int .i64 ((rd_T36 l0 x11_1).f1), .bool ((rd_T36 l0 x11_1).f2)] 36 (0, 0)) (zk BK153) hb)
              have n1_ := jA (jM (zb1 HB GE153) hb)
              clear BK153
              clear HB
              have BK153 := n0_
              have HB := n1_
              clear n0_ n1_
              (try clear hb)
              (try clear hb2)
              (try clear hk)
              (try clear hi)
              refine hK.out _ _ ⟨(jE BK153.out 0).trans rfl, (jE BK153.out 1).trans rfl, (jE BK153.out 2).trans rfl⟩ (fun hHeld => ?_)
              clear hK K
              refine norm_ (a' := ?_) ?_ ?_
              rotate_left
              ·show Act.put _ (some 31) _ = _
               simp only [Act.put, jB, jI, jJ, i64_w, i32_w]
               rfl
              refine pure_ (i := 6) (N := some 5) (v := ?_) (a' := ?_) m7_7f rfl rfl zr (fun _ _ _ h => h) (Or.inl ⟨by rfl, ?_⟩) ?_ ?_
              rotate_left
              ·intro w'
               go_simp
               with_reducible rfl
              rotate_left
              ·simp only [Act.put, jB, jI, jJ, i64_w, i32_w]
               rfl
              refine done_ zr ?_
              try go_wp2
              have n0_ := jA (jb BK153.out)
              have n1_ := jA (jQ HB.out)
              clear BK153
              clear HB
              have BK153 := n0_
              have HB := n1_
              clear n0_ n1_
              refine start_ (n := 17) (S := fun w' => True) (ds := []) m17_0 zr rfl rfl trivial (fun hHeld => ?_); refine with_tabW impl_AreTries.tab9 impl_AreTries.bits9 (fun HT_ HW_ => ?_)
              generalize w26.drew = w27 at BK153 HB hHeld ⊢
              refine zp HT_ 0 32 m17_10000 ?_
              refine zp HT_ 1 33 m17_18000 ?_
              refine zp HT_ 2 34 m17_1c000 ?_
              refine zp HT_ 3 35 m17_1e000 ?_
              refine zp HT_ 4 36 m17_1f000 ?_
              refine zp HT_ 5 37 m17_1f800 ?_
              refine zp HT_ 6 38 m17_1fc00 ?_
              refine zq HT_ 7 39 m17_1fe00 ?_
              refine zq HT_ 8 40 m17_1ff00 ?_
              refine zq HT_ 9 41 m17_1ff80 ?_
              refine zq HT_ 10 42 m17_1ffc0 ?_
              refine zq HT_ 11 43 m17_1ffe0 ?_
              refine zq HT_ 12 44 m17_1fff0 ?_
              refine zq HT_ 13 45 m17_1fff8 ?_
              refine zq HT_ 14 46 m17_1fffc ?_
              refine zq HT_ 15 47 m17_1fffe ?_
              refine zp HT_ 16 48 m17_1ffff ?_
              refine done_ (done_of HT_.out zr) ?_
              try go_wp2
              go_ret
              exact ⟨by first | rfl | (simp [errW_none, errW_some] <;> rfl) | (simp [*, errW_none, errW_some] <;> rfl), zb1 HB GE153⟩
             ·rw [if_neg c23] at H
              have c23b0 : (t160 == 3) = false := beq_eq_false_iff_ne.mpr c23
              have c23b1 : (t160 != 3) = true := bne_iff_ne.mpr c23
              have c28b0 := eq_true (jC za : 0 ≤ x11_1)
              have c29b0 := eq_true (jC za : x11_1 ≤ (l0.length : Int))
              obtain ⟨y161, hy161⟩ : ∃ y_ : List (S36), y_ = (l0.take (x11_1 : Int).toNat) := ⟨_, rfl⟩
              replace H : ((impl_nextTick.f kj5 y161 ((rd_T36 l0 x11_1).f0)).bind fun t165 => (if ((rd_T36 l0 x11_1).f1) < t165 then (some false) else (impl_AreTries.l0 kj5 l0 l0 (l0.length : Int) (wrap64 (x11_1 + 1))))) = some r := by first | (rw [hy161]; with_reducible exact H) | (have H2_ := (Option.bind_some _ _).symm.trans H; rw [hy161]; with_reducible exact H2_) | (have H2_ := (Option.bind_some _ _).symm.trans H; with_reducible exact H2_) | with_reducible exact H | (rw [hy161]; exact H) | exact H
              have Ny161 := jA hy161
              clear hy161
              replace H := jD.mp H
              obtain ⟨t165, A300, H⟩ := H
              replace H : (if ((rd_T36 l0 x11_1).f1) < t165 then (some false) else (impl_AreTries.l0 kj5 l0 l0 (l0.length : Int) (wrap64 (x11_1 + 1)))) = some r := H
              have A30 := jA A300
              clear A300
              by_cases c31 : ((rd_T36 l0 x11_1).f1) < t165
              ·rw [if_pos c31] at H
               have c31b0 : decide (((rd_T36 l0 x11_1).f1) < t165) = true := jN c31
               clear c31
               obtain rfl := jV H
               try go_wp2
               have n0_ := jA (jb BK153.out)
               have n1_ := jA (jQ HB.out)
               clear BK153
               clear HB
               have BK153 := n0_
               have HB := n1_
               clear n0_ n1_
               have q33 : (x11_1 : Int) ≤ ((l0.length : Int) : Int) := jC za
               obtain ⟨i033, hi033, _, hsz33, _⟩ := info_parts info36
               have hroom33 : l0.length ≤ c0 := HC0.out
               have hC33 : Kd.C k36 _ (some ad152) l0.length l0 := HR0.out
               (try clear hcut20)
               (try clear hcut25)
               have hcut33 := cut_to (P := Try.prog) 25 36 .i64 Try.underlying25 hi033 (some ad152) l0.length c0 x11_1 (jC za) q33 hroom33
               have hr33 := Kd.C_take (m := (x11_1 : Int).toNat) hC33 (by omega)
               have hy33 : y156.length = (x11_1 : Int).toNat := (by rw [Ny156.out, List.length_take]; omega)
               rw [← Ny156.out] at hr33
               rw [← hy33] at hcut33
               have HR159 := jA hr33
               have HC159 := jA (show y156.length ≤ c0 from by omega)
               clear hr33 hC33 hroom33 hi033 hsz33
               have KY33 := jA hy33
               clear hy33
               replace q33 := eq_true q33
               refine start_ (n := 7) (S := fun w' => w'.cell? ⟨gb153, 0, none⟩ = some (.int .i64 ((rd_T36 l0 x11_1).f0)) ∧ w'.cell? ⟨gb153, 1, none⟩ = some (.int .i64 ((rd_T36 l0 x11_1).f1)) ∧ w'.cell? ⟨gb153, 2, none⟩ = some (.bool ((rd_T36 l0 x11_1).f2))) (ds := []) m7_0 zr rfl rfl ⟨(jE BK153.out 0).trans rfl, (jE BK153.out 1).trans rfl, (jE BK153.out 2).trans rfl⟩ (fun hHeld => ?_)
               generalize wc.drew = w32 at BK153 HB HR159 hHeld ⊢
               refine pure_ (i := 0) (N := some 26) (v := ?_) (a' := ?_) m7_40 rfl rfl zr (fun _ _ _ h => h) (Or.inl ⟨by rfl, ?_⟩) ?_ ?_
               rotate_left
               ·intro w'
                go_simp
                with_reducible rfl
               rotate_left
               ·simp only [Act.put, jB, jI, jJ, i64_w, i32_w]
                rfl
               refine pure_ (i := 1) (N := some 27) (v := ?_) (a' := ?_) m7_60 rfl rfl zr (fun _ _ _ h => h) (Or.inl ⟨by rfl, ?_⟩) ?_ ?_
               rotate_left
               ·intro w'
                go_simp
                with_reducible rfl
               rotate_left
               ·simp only [Act.put, jB, jI, jJ, i64_w, i32_w]
                rfl
               refine pure_ (i := 2) (N := some 28) (v := ?_) (a' := ?_) m7_70 rfl rfl zr (fun _ _ _ h => h) (Or.inl ⟨by rfl, ?_⟩) ?_ ?_
               rotate_left
               ·intro w'
                go_simp
                with_reducible rfl
               rotate_left
               ·simp only [Act.put, jB, jI, jJ, i64_w, i32_w]
                rfl
               refine pure_ (i := 3) (N := some 29) (v := ?_) (a' := ?_) m7_78 rfl rfl zr (fun _ _ _ h => h) (Or.inl ⟨by rfl, ?_⟩) ?_ ?_
               rotate_left
               ·intro w'
                go_simp
                with_reducible rfl
               rotate_left
               ·simp only [Act.put, jB, jI, jJ, i64_w, i32_w]
                rfl
               refine take_ (i := 4) (N := some 30) (v := ?_) (a' := ?_) m7_7c rfl rfl zr (fun _ _ _ h => h) (Or.inl ⟨by rfl, ?_⟩) hHeld ?_ ?_
               rotate_left
               ·rintro w' ⟨s0, s1, s2⟩
                go_simp
                with_reducible rfl
               rotate_left
               ·simp only [Act.put, jB, jI, jJ, i64_w, i32_w]
                rfl
               refine one_ (i := 5) (N := some 31) m7_7e rfl rfl zr (by decide) (fun K hK => ?_)
               refine goes_ Try.func53 zr rfl #[.slice (some ad152) y156.length c0, .int .i64 ((rd_T36 l0 x11_1).f0)] (by rfl) rfl rfl zm ?_
               with_reducible refine (impl_cueState.calls kj5 _ _ y156 ((rd_T36 l0 x11_1).f0) t160 _ ?side1 ?side2 A17.out).mono ?_
               (case side1 => exact zs HR159 HB)
               (case side2 => exact HC159.out)
               rintro e w34 ⟨rfl, hb⟩
               refine ⟨_, rfl, ?_⟩
               have n0_ := jA (blk_below (g := gb153) (o := .cells #[.int .i64 ((rd_T36 l0 x11_1).f0), .int .i64 ((rd_T36 l0 x11_1).f1), .bool ((rd_T36 l0 x11_1).f2)] 36 (0, 0)) (zk BK153) hb)
               have n1_ := jA (jM (zb1 HB GE153) hb)
               clear BK153
               clear HB
               have BK153 := n0_
               have HB := n1_
               clear n0_ n1_
               (try clear hb)
               (try clear hb2)
               (try clear hk)
               (try clear hi)
               refine hK.out _ _ ⟨(jE BK153.out 0).trans rfl, (jE BK153.out 1).trans rfl, (jE BK153.out 2).trans rfl⟩ (fun hHeld => ?_)
               clear hK K
               refine norm_ (a' := ?_) ?_ ?_
               rotate_left
               ·show Act.put _ (some 31) _ = _
                simp only [Act.put, jB, jI, jJ, i64_w, i32_w]
                rfl
               refine pure_ (i := 6) (N := some 5) (v := ?_) (a' := ?_) m7_7f rfl rfl zr (fun _ _ _ h => h) (Or.inl ⟨by rfl, ?_⟩) ?_ ?_
               rotate_left
               ·intro w'
                go_simp
                with_reducible rfl
               rotate_left
               ·simp only [Act.put, jB, jI, jJ, i64_w, i32_w]
                rfl
               refine done_ zr ?_
               try go_wp2
               have n0_ := jA (jb BK153.out)
               have n1_ := jA (jQ HB.out)
               clear BK153
               clear HB
               have BK153 := n0_
               have HB := n1_
               clear n0_ n1_
               have q36 : (x11_1 : Int) ≤ ((l0.length : Int) : Int) := jC za
               obtain ⟨i036, hi036, _, hsz36, _⟩ := info_parts info36
               have hroom36 : l0.length ≤ c0 := HC0.out
               have hC36 : Kd.C k36 _ (some ad152) l0.length l0 := HR0.out
               (try clear hcut20)
               (try clear hcut25)
               (try clear hcut33)
               have hcut36 := cut_to (P := Try.prog) 25 36 .i64 Try.underlying25 hi036 (some ad152) l0.length c0 x11_1 (jC za) q36 hroom36
               have hr36 := Kd.C_take (m := (x11_1 : Int).toNat) hC36 (by omega)
               have hy36 : y161.length = (x11_1 : Int).toNat := (by rw [Ny161.out, List.length_take]; omega)
               rw [← Ny161.out] at hr36
               rw [← hy36] at hcut36
               have HR164 := jA hr36
               have HC164 := jA (show y161.length ≤ c0 from by omega)
               clear hr36 hC36 hroom36 hi036 hsz36
               have KY36 := jA hy36
               clear hy36
               replace q36 := eq_true q36
               refine start_ (n := 17) (S := fun w' => w'.cell? ⟨gb153, 0, none⟩ = some (.int .i64 ((rd_T36 l0 x11_1).f0)) ∧ w'.cell? ⟨gb153, 1, none⟩ = some (.int .i64 ((rd_T36 l0 x11_1).f1)) ∧ w'.cell? ⟨gb153, 2, none⟩ = some (.bool ((rd_T36 l0 x11_1).f2))) (ds := []) m17_0 zr rfl rfl ⟨(jE BK153.out 0).trans rfl, (jE BK153.out 1).trans rfl, (jE BK153.out 2).trans rfl⟩ (fun hHeld => ?_); refine with_tabW impl_AreTries.tab9 impl_AreTries.bits9 (fun HT_ HW_ => ?_)
               generalize w34.drew = w35 at BK153 HB HR164 hHeld ⊢
               refine zp HT_ 0 32 m17_10000 ?_
               refine zp HT_ 1 33 m17_18000 ?_
               refine zp HT_ 2 34 m17_1c000 ?_
               refine zp HT_ 3 35 m17_1e000 ?_
               refine zp HT_ 4 36 m17_1f000 ?_
               refine zp HT_ 5 37 m17_1f800 ?_
               refine zp HT_ 6 38 m17_1fc00 ?_
               refine zp HT_ 7 39 m17_1fe00 ?_
               refine zp HT_ 9 41 m17_1fe80 ?_
               refine zp HT_ 10 42 m17_1fec0 ?_
               refine zp HT_ 11 43 m17_1fee0 ?_
               refine zp HT_ 12 44 m17_1fef0 ?_
               refine zt3 HT_ HW_ hHeld 8 40 m17_1fff0 ?_
               refine zt3 HT_ HW_ hHeld 13 45 m17_1fff8 ?_
               refine one_ (i := 14) (N := some 46) m17_1fffc rfl rfl (one_of HT_.out zr) (by decide) (fun K hK => ?_)
               refine goes_ Try.func54 zr rfl #[.slice (some ad152) y161.length c0, .int .i64 ((rd_T36 l0 x11_1).f0)] (by rfl) rfl rfl zm ?_
               with_reducible refine (impl_nextTick.calls kj5 _ _ y161 ((rd_T36 l0 x11_1).f0) t165 _ ?side1 ?side2 A30.out).mono ?_
               (case side1 => exact zs HR164 HB)
               (case side2 => exact HC164.out)
               rintro e w37 ⟨rfl, hb⟩
               refine ⟨_, rfl, ?_⟩
               have n0_ := jA (blk_below (g := gb153) (o := .cells #[.int .i64 ((rd_T36 l0 x11_1).f0), .int .i64 ((rd_T36 l0 x11_1).f1), .bool ((rd_T36 l0 x11_1).f2)] 36 (0, 0)) (zk BK153) hb)
               have n1_ := jA (jM (zb1 HB GE153) hb)
               clear BK153
               clear HB
               have BK153 := n0_
               have HB := n1_
               clear n0_ n1_
               (try clear hb)
               (try clear hb2)
               (try clear hk)
               (try clear hi)
               refine hK.out _ _ ⟨(jE BK153.out 0).trans rfl, (jE BK153.out 1).trans rfl, (jE BK153.out 2).trans rfl⟩ (fun hHeld => ?_)
               clear hK K
               refine norm_ (a' := ?_) ?_ ?_
               rotate_left
               ·show Act.put _ (some 46) _ = _
                simp only [Act.put, jB, jI, jJ, i64_w, i32_w]
                rfl
               refine zp HT_ 15 47 m17_1fffe ?_
               refine zp HT_ 16 48 m17_1ffff ?_
               refine done_ (done_of HT_.out zr) ?_
               try go_wp2
               go_ret
               exact ⟨by first | rfl | (simp [errW_none, errW_some] <;> rfl) | (simp [*, errW_none, errW_some] <;> rfl), zb1 HB GE153⟩
              ·rw [if_neg c31] at H
               have c31b0 : decide (((rd_T36 l0 x11_1).f1) < t165) = false := jd c31
               clear c31
               have H' := jA H
               clear H
               try go_wp2
               have n0_ := jA (jb BK153.out)
               have n1_ := jA (jQ HB.out)
               clear BK153
               clear HB
               have BK153 := n0_
               have HB := n1_
               clear n0_ n1_
               have q39 : (x11_1 : Int) ≤ ((l0.length : Int) : Int) := jC za
               obtain ⟨i039, hi039, _, hsz39, _⟩ := info_parts info36
               have hroom39 : l0.length ≤ c0 := HC0.out
               have hC39 : Kd.C k36 _ (some ad152) l0.length l0 := HR0.out
               (try clear hcut20)
               (try clear hcut25)
               (try clear hcut33)
               (try clear hcut36)
               have hcut39 := cut_to (P := Try.prog) 25 36 .i64 Try.underlying25 hi039 (some ad152) l0.length c0 x11_1 (jC za) q39 hroom39
               have hr39 := Kd.C_take (m := (x11_1 : Int).toNat) hC39 (by omega)
               have hy39 : y156.length = (x11_1 : Int).toNat := (by rw [Ny156.out, List.length_take]; omega)
               rw [← Ny156.out] at hr39
               rw [← hy39] at hcut39
               have HR159 := jA hr39
               have HC159 := jA (show y156.length ≤ c0 from by omega)
               clear hr39 hC39 hroom39 hi039 hsz39
               have KY39 := jA hy39
               clear hy39
               replace q39 := eq_true q39
               refine start_ (n := 7) (S := fun w' => w'.cell? ⟨gb153, 0, none⟩ = some (.int .i64 ((rd_T36 l0 x11_1).f0)) ∧ w'.cell? ⟨gb153, 1, none⟩ = some (.int .i64 ((rd_T36 l0 x11_1).f1)) ∧ w'.cell? ⟨gb153, 2, none⟩ = some (.bool ((rd_T36 l0 x11_1).f2))) (ds := []) m7_0 zr rfl rfl ⟨(jE BK153.out 0).trans rfl, (jE BK153.out 1).trans rfl, (jE BK153.out 2).trans rfl⟩ (fun hHeld => ?_)
               generalize wc.drew = w38 at BK153 HB HR159 hHeld ⊢
               refine pure_ (i := 0) (N := some 26) (v := ?_) (a' := ?_) m7_40 rfl rfl zr (fun _ _ _ h => h) (Or.inl ⟨by rfl, ?_⟩) ?_ ?_
               rotate_left
               ·intro w'
                go_simp
                with_reducible rfl
               rotate_left
               ·simp only [Act.put, jB, jI, jJ, i64_w, i32_w]
                rfl
               refine pure_ (i := 1) (N := some 27) (v := ?_) (a' := ?_) m7_60 rfl rfl zr (fun _ _ _ h => h) (Or.inl ⟨by rfl, ?_⟩) ?_ ?_
               rotate_left
               ·intro w'
                go_simp
                with_reducible rfl
               rotate_left
               ·simp only [Act.put, jB, jI, jJ, i64_w, i32_w]
                rfl
               refine pure_ (i := 2) (N := some 28) (v := ?_) (a' := ?_) m7_70 rfl rfl zr (fun _ _ _ h => h) (Or.inl ⟨by rfl, ?_⟩) ?_ ?_
               rotate_left
               ·intro w'
                go_simp
                with_reducible rfl
               rotate_left
               ·simp only [Act.put, jB, jI, jJ, i64_w, i32_w]
                rfl
               refine pure_ (i := 3) (N := some 29) (v := ?_) (a' := ?_) m7_78 rfl rfl zr (fun _ _ _ h => h) (Or.inl ⟨by rfl, ?_⟩) ?_ ?_
               rotate_left
               ·intro w'
                go_simp
                with_reducible rfl
               rotate_left
               ·simp only [Act.put, jB, jI, jJ, i64_w, i32_w]
                rfl
               refine take_ (i := 4) (N := some 30) (v := ?_) (a' := ?_) m7_7c rfl rfl zr (fun _ _ _ h => h) (Or.inl ⟨by rfl, ?_⟩) hHeld ?_ ?_
               rotate_left
               ·rintro w' ⟨s0, s1, s2⟩
                go_simp
                with_reducible rfl
               rotate_left
               ·simp only [Act.put, jB, jI, jJ, i64_w, i32_w]
                rfl
               refine one_ (i := 5) (N := some 31) m7_7e rfl rfl zr (by decide) (fun K hK => ?_)
               refine goes_ Try.func53 zr rfl #[.slice (some ad152) y156.length c0, .int .i64 ((rd_T36 l0 x11_1).f0)] (by rfl) rfl rfl zm ?_
               with_reducible refine (impl_cueState.calls kj5 _ _ y156 ((rd_T36 l0 x11_1).f0) t160 _ ?side1 ?side2 A17.out).mono ?_
               (case side1 => exact zs HR159 HB)
               (case side2 => exact HC159.out)
               rintro e w40 ⟨rfl, hb⟩
               refine ⟨_, rfl, ?_⟩
               have n0_ := jA (blk_below (g := gb153) (o := .cells #[.int .i64 ((rd_T36 l0 x11_1).f0), .int .i64 ((rd_T36 l0 x11_1).f1), .bool ((rd_T36 l0 x11_1).f2)] 36 (0, 0)) (zk BK153) hb)
               have n1_ := jA (jM (zb1 HB GE153) hb)
               clear BK153
               clear HB
               have BK153 := n0_
               have HB := n1_
               clear n0_ n1_
               (try clear hb)
               (try clear hb2)
               (try clear hk)
               (try clear hi)
               refine hK.out _ _ ⟨(jE BK153.out 0).trans rfl, (jE BK153.out 1).trans rfl, (jE BK153.out 2).trans rfl⟩ (fun hHeld => ?_)
               clear hK K
               refine norm_ (a' := ?_) ?_ ?_
               rotate_left
               ·show Act.put _ (some 31) _ = _
                simp only [Act.put, jB, jI, jJ, i64_w, i32_w]
                rfl
               refine pure_ (i := 6) (N := some 5) (v := ?_) (a' := ?_) m7_7f rfl rfl zr (fun _ _ _ h => h) (Or.inl ⟨by rfl, ?_⟩) ?_ ?_
               rotate_left
               ·intro w'
                go_simp
                with_reducible rfl
               rotate_left
               ·simp only [Act.put, jB, jI, jJ, i64_w, i32_w]
                rfl
               refine done_ zr ?_
               try go_wp2
               have n0_ := jA (jb BK153.out)
               have n1_ := jA (jQ HB.out)
               clear BK153
               clear HB
               have BK153 := n0_
               have HB := n1_
               clear n0_ n1_
               have q42 : (x11_1 : Int) ≤ ((l0.length : Int) : Int) := jC za
               obtain ⟨i042, hi042, _, hsz42, _⟩ := info_parts info36
               have hroom42 : l0.length ≤ c0 := HC0.out
               have hC42 : Kd.C k36 _ (some ad152) l0.length l0 := HR0.out
               (try clear hcut20)
               (try clear hcut25)
               (try clear hcut33)
               (try clear hcut36)
               (try clear hcut39)
               have hcut42 := cut_to (P := Try.prog) 25 36 .i64 Try.underlying25 hi042 (some ad152) l0.length c0 x11_1 (jC za) q42 hroom42
               have hr42 := Kd.C_take (m := (x11_1 : Int).toNat) hC42 (by omega)
               have hy42 : y161.length = (x11_1 : Int).toNat := (by rw [Ny161.out, List.length_take]; omega)
               rw [← Ny161.out] at hr42
               rw [← hy42] at hcut42
               have HR164 := jA hr42
               have HC164 := jA (show y161.length ≤ c0 from by omega)
               clear hr42 hC42 hroom42 hi042 hsz42
               have KY42 := jA hy42
               clear hy42
               replace q42 := eq_true q42
               refine start_ (n := 17) (S := fun w' => w'.cell? ⟨gb153, 0, none⟩ = some (.int .i64 ((rd_T36 l0 x11_1).f0)) ∧ w'.cell? ⟨gb153, 1, none⟩ = some (.int .i64 ((rd_T36 l0 x11_1).f1)) ∧ w'.cell? ⟨gb153, 2, none⟩ = some (.bool ((rd_T36 l0 x11_1).f2))) (ds := []) m17_0 zr rfl rfl ⟨(jE BK153.out 0).trans rfl, (jE BK153.out 1).trans rfl, (jE BK153.out 2).trans rfl⟩ (fun hHeld => ?_); refine with_tabW impl_AreTries.tab9 impl_AreTries.bits9 (fun HT_ HW_ => ?_)
               generalize w40.drew = w41 at BK153 HB HR164 hHeld ⊢
               refine zp HT_ 0 32 m17_10000 ?_
               refine zp HT_ 1 33 m17_18000 ?_
               refine zp HT_ 2 34 m17_1c000 ?_
               refine zp HT_ 3 35 m17_1e000 ?_
               refine zp HT_ 4 36 m17_1f000 ?_
               refine zp HT_ 5 37 m17_1f800 ?_
               refine zp HT_ 6 38 m17_1fc00 ?_
               refine zp HT_ 7 39 m17_1fe00 ?_
               refine zp HT_ 9 41 m17_1fe80 ?_
               refine zp HT_ 10 42 m17_1fec0 ?_
               refine zp HT_ 11 43 m17_1fee0 ?_
               refine zp HT_ 12 44 m17_1fef0 ?_
               refine zt3 HT_ HW_ hHeld 8 40 m17_1fff0 ?_
               refine zt3 HT_ HW_ hHeld 13 45 m17_1fff8 ?_
               refine one_ (i := 14) (N := some 46) m17_1fffc rfl rfl (one_of HT_.out zr) (by decide) (fun K hK => ?_)
               refine goes_ Try.func54 zr rfl #[.slice (some ad152) y161.length c0, .int .i64 ((rd_T36 l0 x11_1).f0)] (by rfl) rfl rfl zm ?_
               with_reducible refine (impl_nextTick.calls kj5 _ _ y161 ((rd_T36 l0 x11_1).f0) t165 _ ?side1 ?side2 A30.out).mono ?_
               (case side1 => exact zs HR164 HB)
               (case side2 => exact HC164.out)
               rintro e w43 ⟨rfl, hb⟩
               refine ⟨_, rfl, ?_⟩
               have n0_ := jA (blk_below (g := gb153) (o := .cells #[.int .i64 ((rd_T36 l0 x11_1).f0), .int .i64 ((rd_T36 l0 x11_1).f1), .bool ((rd_T36 l0 x11_1).f2)] 36 (0, 0)) (zk BK153) hb)
               have n1_ := jA (jM (zb1 HB GE153) hb)
               clear BK153
               clear HB
               have BK153 := n0_
               have HB := n1_
               clear n0_ n1_
               (try clear hb)
               (try clear hb2)
               (try clear hk)
               (try clear hi)
               refine hK.out _ _ ⟨(jE BK153.out 0).trans rfl, (jE BK153.out 1).trans rfl, (jE BK153.out 2).trans rfl⟩ (fun hHeld => ?_)
               clear hK K
               refine norm_ (a' := ?_) ?_ ?_
               rotate_left
               ·show Act.put _ (some 46) _ = _
                simp only [Act.put, jB, jI, jJ, i64_w, i32_w]
                rfl
               refine zp HT_ 15 47 m17_1fffe ?_
               refine zp HT_ 16 48 m17_1ffff ?_
               refine done_ (done_of HT_.out zr) ?_
               try go_wp2
               go_roundg kj5
               case measure => have := HK1.out; have := HJ5.out; omega
               case rel => exact ⟨(wrap64 (x11_1 + 1)), zz, H', ⟨by have := HK1.out; have := HJ5.out; omega⟩, ⟨zb1 HB GE153⟩⟩
           ·rw [if_neg c16] at H
            exact absurd H (by simp)
          ·rw [if_neg c15] at H
           exact absurd H (by simp)
      ·rw [if_neg c5] at H
       exact absurd H (by simp)
     ·rw [if_neg c4] at H
      exact absurd H (by simp)
    ·rw [if_neg c3] at H
     have c3b0 : decide (x11_1 < (l0.length : Int)) = false := jd c3
     clear c3
     obtain rfl := jV H
     go_wp2
     go_ret
     exact ⟨by first | rfl | (simp [errW_none, errW_some] <;> rfl) | (simp [*, errW_none, errW_some] <;> rfl), zb0 HB⟩

end Go.Proofs.Ythnpffomoaeeoaa.PFnCueStates
