/- Functions and contracts that FnStops reaches (6 of 14). -/
import Derived.Test.YtddejaomlnldiaaQFnStopsx4
namespace Go.Proofs.Ytddejaomlnldiaa.PFnStops
open Go.RowKit Go.Proofs.YtddejaomlnldiaaW.PrintWords Go.Proofs.YtddejaomlnldiaaW.PrintLast Go.Proofs.YtddejaomlnldiaaW.PrintMore
attribute [local go_sem] max2_int min2_int max_two min_two max_three min_three max_four min_four   -- for this text's walks alone
set_option linter.unusedVariables false
set_option linter.unusedSimpArgs false

/-! ### impl_AreWires: function 86 -/
mutual
def impl_AreWires.j0 : Nat → List (S63) → Int → List (S59) → Bool → Option (Bool)
 | 0, _, _, _, _ => none
 | k + 1, x0, x1, x2, x16 => if x16 = true then (some false) else (impl_AreWires.l0 k x0 x1 x2 x2 (x2.length : Int) 0)
def impl_AreWires.l0 : Nat → List (S63) → Int → List (S59) → List (S59) → Int → Int → Option (Bool)
 | 0, _, _, _, _, _, _ => none
 | k + 1, x0, x1, x2, x17, x18, x19 => if x19 < x18 then (if 0 ≤ x19 then (if x19 < (x17.length : Int) then ((impl_within.f ((rd_T59 x17 x19).f0) 0 (wrap64 (x1 - 1))).bind fun t193 => (if t193 = true then ((impl_isPin.f x0 ((rd_T59 x17 x19).f1) ((rd_T59 x17 x19).f2)).bind fun t194 => (if t194 = true then (if x19 > 0 then (if 0 ≤ (wrap64 (x19 - 1)) then (if (wrap64 (x19 - 1)) < (x2.length : Int) then (impl_AreWires.j2 k x0 x1 x2 x19 x17 x18 x19 (decide (((rd_T59 x2 (wrap64 (x19 - 1))).f0) ≥ ((rd_T59 x17 x19).f0))) ((rd_T59 x17 x19).f0) ((rd_T59 x17 x19).f1) ((rd_T59 x17 x19).f2)) else (none)) else (none)) else (impl_AreWires.j2 k x0 x1 x2 x19 x17 x18 x19 false ((rd_T59 x17 x19).f0) ((rd_T59 x17 x19).f1) ((rd_T59 x17 x19).f2))) else (impl_AreWires.j2 k x0 x1 x2 x19 x17 x18 x19 true ((rd_T59 x17 x19).f0) ((rd_T59 x17 x19).f1) ((rd_T59 x17 x19).f2)))) else (impl_AreWires.j2 k x0 x1 x2 x19 x17 x18 x19 true ((rd_T59 x17 x19).f0) ((rd_T59 x17 x19).f1) ((rd_T59 x17 x19).f2)))) else (none)) else (none)) else (some true)
def impl_AreWires.j2 : Nat → List (S63) → Int → List (S59) → Int → List (S59) → Int → Int → Bool → Int → Int → Int → Option (Bool)
 | 0, _, _, _, _, _, _, _, _, _, _, _ => none
 | k + 1, x0, x1, x2, x7, x17, x18, x19, x53, x193000, x193001, x193002 => if x53 = true then (some false) else (if 0 ≤ x7 then (if x7 ≤ (x2.length : Int) then ((impl_cueAt.f k (x2.take (x7 : Int).toNat) x193001 x193002).bind fun t200 => (if t200 ≥ 0 then (some false) else (impl_AreWires.l0 k x0 x1 x2 x17 x18 (wrap64 (x19 + 1))))) else (none)) else (none))
end
def impl_AreWires.f (k : Nat) (l0 : List (S63)) (a1 : Int) (l2 : List (S59)) : Option (Bool) := (impl_AreModules.f k l0).bind fun t189 => (if t189 = true then ((impl_within.f a1 0 20).bind fun t190 => (impl_AreWires.j0 k l0 a1 l2 (!t190))) else (impl_AreWires.j0 k l0 a1 l2 true))
theorem impl_AreWires.mono_l : ∀ k, (∀ y0 y1 y2 y3, LeO (impl_AreWires.j0 k y0 y1 y2 y3) (impl_AreWires.j0 (k + 1) y0 y1 y2 y3)) ∧ (∀ y0 y1 y2 y3 y4 y5, LeO (impl_AreWires.l0 k y0 y1 y2 y3 y4 y5) (impl_AreWires.l0 (k + 1) y0 y1 y2 y3 y4 y5)) ∧ (∀ y0 y1 y2 y3 y4 y5 y6 y7 y8 y9 y10, LeO (impl_AreWires.j2 k y0 y1 y2 y3 y4 y5 y6 y7 y8 y9 y10) (impl_AreWires.j2 (k + 1) y0 y1 y2 y3 y4 y5 y6 y7 y8 y9 y10))
 | 0 => ⟨fun _ _ _ _ r h => by simp [impl_AreWires.j0] at h, fun _ _ _ _ _ _ r h => by simp [impl_AreWires.l0] at h, fun _ _ _ _ _ _ _ _ _ _ _ r h => by simp [impl_AreWires.j2] at h⟩
 | k + 1 => by
  obtain ⟨ih0, ih1, ih2⟩ := impl_AreWires.mono_l k
  refine ⟨?_, ?_, ?_⟩
  ·intro y0 y1 y2 y3
   unfold impl_AreWires.j0
   repeat' first
   | (with_reducible exact ih0 _ _ _ _)
   | (with_reducible exact ih1 _ _ _ _ _ _)
   | (with_reducible exact ih2 _ _ _ _ _ _ _ _ _ _ _)
   | (with_reducible exact impl_AreModules.mono _ _)
   | (with_reducible exact impl_cueAt.mono _ _ _ _)
   | (with_reducible exact LeO.refl _)
   | (with_reducible exact LeO.none _)
   | (with_reducible refine LeO.ite ?_ ?_)
   | (with_reducible refine LeO.bind ?_ (fun _ => ?_))
   | exact ih0 _ _ _ _
   | exact ih1 _ _ _ _ _ _
   | exact ih2 _ _ _ _ _ _ _ _ _ _ _
   | exact impl_AreModules.mono _ _
   | exact impl_cueAt.mono _ _ _ _
   | exact LeO.none _
   | refine LeO.ite ?_ ?_
   | refine LeO.bind ?_ (fun _ => ?_)
  ·intro y0 y1 y2 y3 y4 y5
   unfold impl_AreWires.l0
   repeat' first
   | (with_reducible exact ih0 _ _ _ _)
   | (with_reducible exact ih1 _ _ _ _ _ _)
   | (with_reducible exact ih2 _ _ _ _ _ _ _ _ _ _ _)
   | (with_reducible exact impl_AreModules.mono _ _)
   | (with_reducible exact impl_cueAt.mono _ _ _ _)
   | (with_reducible exact LeO.refl _)
   | (with_reducible exact LeO.none _)
   | (with_reducible refine LeO.ite ?_ ?_)
   | (with_reducible refine LeO.bind ?_ (fun _ => ?_))
   | exact ih0 _ _ _ _
   | exact ih1 _ _ _ _ _ _
   | exact ih2 _ _ _ _ _ _ _ _ _ _ _
   | exact impl_AreModules.mono _ _
   | exact impl_cueAt.mono _ _ _ _
   | exact LeO.none _
   | refine LeO.ite ?_ ?_
   | refine LeO.bind ?_ (fun _ => ?_)
  ·intro y0 y1 y2 y3 y4 y5 y6 y7 y8 y9 y10
   unfold impl_AreWires.j2
   repeat' first
   | (with_reducible exact ih0 _ _ _ _)
   | (with_reducible exact ih1 _ _ _ _ _ _)
   | (with_reducible exact ih2 _ _ _ _ _ _ _ _ _ _ _)
   | (with_reducible exact impl_AreModules.mono _ _)
   | (with_reducible exact impl_cueAt.mono _ _ _ _)
   | (with_reducible exact LeO.refl _)
   | (with_reducible exact LeO.none _)
   | (with_reducible refine LeO.ite ?_ ?_)
   | (with_reducible refine LeO.bind ?_ (fun _ => ?_))
   | exact ih0 _ _ _ _
   | exact ih1 _ _ _ _ _ _
   | exact ih2 _ _ _ _ _ _ _ _ _ _ _
   | exact impl_AreModules.mono _ _
   | exact impl_cueAt.mono _ _ _ _
   | exact LeO.none _
   | refine LeO.ite ?_ ?_
   | refine LeO.bind ?_ (fun _ => ?_)
theorem impl_AreWires.mono : ∀ a0 a1 a2 k, LeO (impl_AreWires.f k a0 a1 a2) (impl_AreWires.f (k + 1) a0 a1 a2) := by
 intro a0 a1 a2 k
 obtain ⟨ih0, ih1, ih2⟩ := impl_AreWires.mono_l k
 unfold impl_AreWires.f
 repeat' first
   | (with_reducible exact ih0 _ _ _ _)
   | (with_reducible exact ih1 _ _ _ _ _ _)
   | (with_reducible exact ih2 _ _ _ _ _ _ _ _ _ _ _)
   | (with_reducible exact impl_AreModules.mono _ _)
   | (with_reducible exact impl_cueAt.mono _ _ _ _)
   | (with_reducible exact LeO.refl _)
   | (with_reducible exact LeO.none _)
   | (with_reducible refine LeO.ite ?_ ?_)
   | (with_reducible refine LeO.bind ?_ (fun _ => ?_))
   | exact ih0 _ _ _ _
   | exact ih1 _ _ _ _ _ _
   | exact ih2 _ _ _ _ _ _ _ _ _ _ _
   | exact impl_AreModules.mono _ _
   | exact impl_cueAt.mono _ _ _ _
   | exact LeO.none _
   | refine LeO.ite ?_ ?_
   | refine LeO.bind ?_ (fun _ => ?_)
def impl_AreWires.T6 : Bool × List (List Nat × List Nat) := (true, [([], []), ([0], [0]), ([], []), ([2], [2]), ([1, 3], [1, 3]), ([4], [4]), ([5, 4], [5]), ([6], [6]), ([6], [6]), ([8, 6], [6, 8]), ([6], [6]), ([10, 6], [6, 10]), ([7, 9, 11, 6, 6], [6, 7, 9, 11]), ([12, 6], [6, 12]), ([6, 13], [6, 13]), ([14, 12], [14]), ([15], [15]), ([16, 15], [15, 16]), ([17, 15, 15], [15, 17]), ([18], [18]), ([18], [18]), ([20, 18], [18, 20]), ([19, 21, 18], [18, 19, 21]), ([22, 18], [18, 22]), ([23, 18], [18, 23]), ([18], [18]), ([25, 18], [18, 25]), ([24, 26, 18], [18, 24, 26]), ([18, 27, 15], [15, 18, 27]), ([15, 28], [15, 28])])
def impl_AreWires.B6 : List Nat := [0, 1, 0, 4, 15, 31, 63, 127, 127, 383, 127, 1151, 4095, 8191, 16383, 32767, 65535, 131071, 262143, 524287, 524287, 1572863, 4194303, 8388607, 16777215, 524287, 34078719, 134217727, 268435455, 536870911]
theorem impl_AreWires.tab6 : rtab .any (opsOf Try.f86 6) = impl_AreWires.T6 := by kernel_rfl
theorem impl_AreWires.bits6 : waitsOk impl_AreWires.T6.2 impl_AreWires.B6 = true := by kernel_rfl
def impl_AreWires.T8 : Bool × List (List Nat × List Nat) := (true, [([], []), ([], []), ([0, 1], [0, 1]), ([], []), ([3], [3]), ([], []), ([5], [5]), ([2, 4, 6], [2, 4, 6]), ([7], [7])])
def impl_AreWires.B8 : List Nat := [0, 0, 3, 0, 8, 0, 32, 127, 255]
theorem impl_AreWires.tab8 : rtab .any (opsOf Try.f86 8) = impl_AreWires.T8 := by kernel_rfl
theorem impl_AreWires.bits8 : waitsOk impl_AreWires.T8.2 impl_AreWires.B8 = true := by kernel_rfl
set_option maxHeartbeats 8000000 in
set_option maxRecDepth 100000 in
theorem impl_AreWires.calls (k : Nat) (A0 : Option Addr) (c0 : Nat) (l0 : List (S63)) (a1 : Int) (A2 : Option Addr) (c2 : Nat) (l2 : List (S59)) (r : Bool) (w : World) (hr0 : Kd.C k63 w A0 l0.length l0) (hc0 : l0.length ≤ c0) (hr2 : Kd.C k59 w A2 l2.length l2) (hc2 : l2.length ≤ c2) (h : impl_AreWires.f k l0 a1 l2 = some r) :
  Calls Try.prog 86 #[.slice A0 l0.length c0, .int .i64 a1, .slice A2 l2.length c2] w fun e w' => e = .returned (.bool r) ∧ Below w.heap.size w w' := by
 have hu59 := Try.underlying59
 have HR0 := jA hr0
 have HC0 := jA hc0
 clear hr0 hc0
 have HR2 := jA hr2
 have HC2 := jA hc2
 clear hr2 hc2
 have HB := jA (Below.refl w.heap.size w)
 have H : ((impl_AreModules.f k l0).bind fun t189 => (if t189 = true then ((impl_within.f a1 0 20).bind fun t190 => (impl_AreWires.j0 k l0 a1 l2 (!t190))) else (impl_AreWires.j0 k l0 a1 l2 true))) = some r := h
 clear h
 have HC4 := jA H
 clear H
 go_enter Try.func86, Try.ntmps86
 go_upto_region 1 with (fail)
 go_cut [16] (fun v16 wc => ∃ (kq : Nat) (x16_3 : Bool), v16 = .bool x16_3 ∧ Aside0 (impl_AreWires.j0 kq l0 a1 l2 x16_3 = some r) ∧ Aside0 (kq ≤ k) ∧ Aside0 (Below w.heap.size w wc))
 case first =>
  have H := HC4.out
  clear HC4
  replace H := jD.mp H
  obtain ⟨t189, A50, H⟩ := H
  replace H : (if t189 = true then ((impl_within.f a1 0 20).bind fun t190 => (impl_AreWires.j0 k l0 a1 l2 (!t190))) else (impl_AreWires.j0 k l0 a1 l2 true)) = some r := H
  have A5 := jA A50
  clear A50
  by_cases c6 : t189 = true
  ·subst c6
   have H1 : ((impl_within.f a1 0 20).bind fun t190 => (impl_AreWires.j0 k l0 a1 l2 (!t190))) = some r := by rw [if_pos rfl] at H; exact H
   clear H
   have H := H1
   clear H1
   replace H := jD.mp H
   obtain ⟨t190, A70, H⟩ := H
   replace H : (impl_AreWires.j0 k l0 a1 l2 (!t190)) = some r := H
   have A7 := jA A70
   clear A70
   have H' := jA H
   clear H
   go_wp2_with (first | ((with_reducible refine jN (f := 54) rfl ?_); refine goesL_ (some 10) rfl rfl Try.func54 zr rfl #[.slice A0 l0.length c0] rfl zm ?_; (with_reducible refine (impl_AreModules.calls k _ _ l0 true _ ?side1 ?side2 A5.out).mono ?_); (case side1 => exact zs HR0 HB); (case side2 => exact HC0.out); rintro e w8 ⟨rfl, hb⟩; refine ⟨_, rfl, ?_⟩; have n0_ := jA (jV (zb0 HB) hb); clear HB; have HB := n0_; clear n0_; (try clear hb); (try clear hb2); (try clear hk); (try clear hi)) | (go_at_call 61; (with_reducible refine (impl_within.calls a1 0 20 t190 _ A7.out).mono ?_); rintro e w' ⟨rfl, ⟨nd, rfl⟩⟩))
   go_meet
   case rel => exact ⟨_, (!t190), zz, H', ⟨by first | omega | exact Nat.le_refl _⟩, ⟨zb0 HB⟩⟩
  ·replace c6 := Bool.eq_false_iff.mpr c6
   subst c6
   have H1 : (impl_AreWires.j0 k l0 a1 l2 true) = some r := by rw [if_neg (show ¬ (false = true) by decide)] at H; exact H
   clear H
   have H := H1
   clear H1
   have H' := jA H
   clear H
   go_wp2_with (first | ((with_reducible refine jN (f := 54) rfl ?_); refine goesL_ (some 10) rfl rfl Try.func54 zr rfl #[.slice A0 l0.length c0] rfl zm ?_; (with_reducible refine (impl_AreModules.calls k _ _ l0 false _ ?side1 ?side2 A5.out).mono ?_); (case side1 => exact zs HR0 HB); (case side2 => exact HC0.out); rintro e w9 ⟨rfl, hb⟩; refine ⟨_, rfl, ?_⟩; have n0_ := jA (jV (zb0 HB) hb); clear HB; have HB := n0_; clear n0_; (try clear hb); (try clear hb2); (try clear hk); (try clear hi)))
   go_meet
   case rel => exact ⟨_, (true), zz, H', ⟨by first | omega | exact Nat.le_refl _⟩, ⟨zb0 HB⟩⟩
 case rest =>
  clear HC4
  try clear c2
  try clear p2
  try clear c5
  try clear c6
  try clear c8
  obtain ⟨kq, x16_3, rfl, HA, HJ3, HB⟩ := hcut
  cases kq with
  | zero => exact absurd HA.out (by simp [impl_AreWires.j0])
  | succ kj3 =>
   have H := HA.out
   clear HA
   simp only [impl_AreWires.j0] at H
   by_cases c10 : x16_3 = true
   ·subst c10
    have H1 : (some false) = some r := by rw [if_pos rfl] at H; exact H
    clear H
    have H := H1
    clear H1
    obtain rfl := jW H
    go_wp2
    go_ret
    exact ⟨by first | rfl | (simp [errW_none, errW_some] <;> rfl) | (simp [*, errW_none, errW_some] <;> rfl), zb0 HB⟩
   ·replace c10 := Bool.eq_false_iff.mpr c10
    subst c10
    have H1 : (impl_AreWires.l0 kj3 l0 a1 l2 l2 (l2.length : Int) 0) = some r := by rw [if_neg (show ¬ (false = true) by decide)] at H; exact H
    clear H
    have H := H1
    clear H1
    have H' := jA H
    clear H
    go_wp2
    go_loopg [19] kj3 (fun kq v19 w' => ∃ (x19_2 : Int), v19 = .int .i64 x19_2 ∧ Aside0 (impl_AreWires.l0 kq l0 a1 l2 l2 (l2.length : Int) x19_2 = some r) ∧ Aside0 (kq ≤ kj3) ∧ Aside0 (Below w.heap.size w w'))
    case atStart => exact ⟨(0), zz, H', ⟨Nat.le_refl _⟩, ⟨zb0 HB⟩⟩
    case round =>
     clear H'
     try clear c1
     try clear c2
     try clear p2
     try clear c5
     try clear c6
     try clear c8
     try clear c10
     try clear p2
     obtain ⟨x19_2, rfl, HA, HK2, HB⟩ := hrel
     cases gk with
     | zero => exact absurd HA.out (by simp [impl_AreWires.l0])
     | succ k2 =>
      have H := HA.out
      clear HA
      simp only [impl_AreWires.l0] at H
      by_cases c11 : x19_2 < (l2.length : Int)
      ·rw [if_pos c11] at H
       have c11b0 : decide (x19_2 < (l2.length : Int)) = true := jP c11
       clear c11
       by_cases c12 : 0 ≤ x19_2
       ·rw [if_pos c12] at H
        have c12b0 : decide (0 ≤ x19_2) = true := jP c12
        clear c12
        by_cases c13 : x19_2 < (l2.length : Int)
        ·rw [if_pos c13] at H
         have c13b0 : decide (x19_2 < (l2.length : Int)) = true := jP c13
         clear c13
         have HC14 := jA H
         clear H
         have p191 : 0 ≤ (x19_2 : Int) := jB za
         have q191 : x19_2 < (l2.length : Int) := jB za
         obtain ⟨ad191, e191, hx191_0, hx191_1, hx191_2⟩ := at_T59 HR2.out x19_2 p191 q191
         cases e191
         replace hx191_0 := (HB.out.cell (jC w _ hx191_0)).trans hx191_0
         replace hx191_1 := (HB.out.cell (jC w _ hx191_1)).trans hx191_1
         replace hx191_2 := (HB.out.cell (jC w _ hx191_2)).trans hx191_2
         replace p191 := eq_true p191
         replace q191 := eq_true q191
         go_upto_region 6 with (first | ((with_reducible refine gate_dst (N := 8) rfl ?_); refine box_event ?hg (N := 8) ?hd (cs := #[.int .i64 0, .int .i64 0, .int .i64 0]) (t := 59) ?hr ?_; (case hd => rfl); (case hg => rfl); (case hr => first | (go_simp; done) | (go_simp; rfl)); intro gb192 hg w15 hbox hb; have n0_ := jA (jV (zb0 HB) hb); have n1_ := jA (hbox); have n2_ := jA ((by rw [hg]; exact (jY (zb0 HB)) : w.heap.size ≤ gb192)); have n3_ := jA ((by rw [hg]; exact (jY (zb0 HB)) : w.heap.size ≤ gb192)); clear HB; have HB := n0_; have BK192 := n1_; have GW192 := n2_; have GE192 := n3_; clear n0_ n1_ n2_ n3_; clear hb hbox hg; have hcz16_0 : w15.cell? ⟨gb192, 0, none⟩ = some (.int .i64 0) := (jF BK192.out 0).trans rfl; have hcz16_1 : w15.cell? ⟨gb192, 1, none⟩ = some (.int .i64 0) := (jF BK192.out 1).trans rfl; have hcz16_2 : w15.cell? ⟨gb192, 2, none⟩ = some (.int .i64 0) := (jF BK192.out 2).trans rfl; have hfz16_0 := jX BK192.out 0; have hfz16_1 := jX BK192.out 1; have hfz16_2 := jX BK192.out 2))
         (try simp only [Act.put, jO, jT, jU])
         go_cut [53] (fun v53 wc => ∃ (kq : Nat) (x53_13 : Bool), v53 = .bool x53_13 ∧ Aside0 (impl_AreWires.j2 kq l0 a1 l2 x19_2 l2 (l2.length : Int) x19_2 x53_13 ((rd_T59 l2 x19_2).f0) ((rd_T59 l2 x19_2).f1) ((rd_T59 l2 x19_2).f2) = some r) ∧ Aside0 (kq ≤ k2) ∧ Aside0 (wc.heap[gb192]? = some (.cells #[.int .i64 ((rd_T59 l2 x19_2).f0), .int .i64 ((rd_T59 l2 x19_2).f1), .int .i64 ((rd_T59 l2 x19_2).f2)] 59 (0, 0))) ∧ Aside0 (Below w.heap.size w wc))
         case first =>
          have H := HC14.out
          clear HC14
          replace H := jD.mp H
          obtain ⟨t193, A170, H⟩ := H
          replace H : (if t193 = true then ((impl_isPin.f l0 ((rd_T59 l2 x19_2).f1) ((rd_T59 l2 x19_2).f2)).bind fun t194 => (if t194 = true then (if x19_2 > 0 then (if 0 ≤ (wrap64 (x19_2 - 1)) then (if (wrap64 (x19_2 - 1)) < (l2.length : Int) then (impl_AreWires.j2 k2 l0 a1 l2 x19_2 l2 (l2.length : Int) x19_2 (decide (((rd_T59 l2 (wrap64 (x19_2 - 1))).f0) ≥ ((rd_T59 l2 x19_2).f0))) ((rd_T59 l2 x19_2).f0) ((rd_T59 l2 x19_2).f1) ((rd_T59 l2 x19_2).f2)) else (none)) else (none)) else (impl_AreWires.j2 k2 l0 a1 l2 x19_2 l2 (l2.length : Int) x19_2 false ((rd_T59 l2 x19_2).f0) ((rd_T59 l2 x19_2).f1) ((rd_T59 l2 x19_2).f2))) else (impl_AreWires.j2 k2 l0 a1 l2 x19_2 l2 (l2.length : Int) x19_2 true ((rd_T59 l2 x19_2).f0) ((rd_T59 l2 x19_2).f1) ((rd_T59 l2 x19_2).f2)))) else (impl_AreWires.j2 k2 l0 a1 l2 x19_2 l2 (l2.length : Int) x19_2 true ((rd_T59 l2 x19_2).f0) ((rd_T59 l2 x19_2).f1) ((rd_T59 l2 x19_2).f2))) = some r := H
          have A17 := jA A170
          clear A170
          by_cases c18 : t193 = true
          ·subst c18
           have H1 : ((impl_isPin.f l0 ((rd_T59 l2 x19_2).f1) ((rd_T59 l2 x19_2).f2)).bind fun t194 => (if t194 = true then (if x19_2 > 0 then (if 0 ≤ (wrap64 (x19_2 - 1)) then (if (wrap64 (x19_2 - 1)) < (l2.length : Int) then (impl_AreWires.j2 k2 l0 a1 l2 x19_2 l2 (l2.length : Int) x19_2 (decide (((rd_T59 l2 (wrap64 (x19_2 - 1))).f0) ≥ ((rd_T59 l2 x19_2).f0))) ((rd_T59 l2 x19_2).f0) ((rd_T59 l2 x19_2).f1) ((rd_T59 l2 x19_2).f2)) else (none)) else (none)) else (impl_AreWires.j2 k2 l0 a1 l2 x19_2 l2 (l2.length : Int) x19_2 false ((rd_T59 l2 x19_2).f0) ((rd_T59 l2 x19_2).f1) ((rd_T59 l2 x19_2).f2))) else (impl_AreWires.j2 k2 l0 a1 l2 x19_2 l2 (l2.length : Int) x19_2 true ((rd_T59 l2 x19_2).f0) ((rd_T59 l2 x19_2).f1) ((rd_T59 l2 x19_2).f2)))) = some r := by rw [if_pos rfl] at H; exact H
           clear H
           have H := H1
           clear H1
           replace H := jD.mp H
           obtain ⟨t194, A190, H⟩ := H
           replace H : (if t194 = true then (if x19_2 > 0 then (if 0 ≤ (wrap64 (x19_2 - 1)) then (if (wrap64 (x19_2 - 1)) < (l2.length : Int) then (impl_AreWires.j2 k2 l0 a1 l2 x19_2 l2 (l2.length : Int) x19_2 (decide (((rd_T59 l2 (wrap64 (x19_2 - 1))).f0) ≥ ((rd_T59 l2 x19_2).f0))) ((rd_T59 l2 x19_2).f0) ((rd_T59 l2 x19_2).f1) ((rd_T59 l2 x19_2).f2)) else (none)) else (none)) else (impl_AreWires.j2 k2 l0 a1 l2 x19_2 l2 (l2.length : Int) x19_2 false ((rd_T59 l2 x19_2).f0) ((rd_T59 l2 x19_2).f1) ((rd_T59 l2 x19_2).f2))) else (impl_AreWires.j2 k2 l0 a1 l2 x19_2 l2 (l2.length : Int) x19_2 true ((rd_T59 l2 x19_2).f0) ((rd_T59 l2 x19_2).f1) ((rd_T59 l2 x19_2).f2))) = some r := H
           have A19 := jA A190
           clear A190
           by_cases c20 : t194 = true
           ·subst c20
            have H1 : (if x19_2 > 0 then (if 0 ≤ (wrap64 (x19_2 - 1)) then (if (wrap64 (x19_2 - 1)) < (l2.length : Int) then (impl_AreWires.j2 k2 l0 a1 l2 x19_2 l2 (l2.length : Int) x19_2 (decide (((rd_T59 l2 (wrap64 (x19_2 - 1))).f0) ≥ ((rd_T59 l2 x19_2).f0))) ((rd_T59 l2 x19_2).f0) ((rd_T59 l2 x19_2).f1) ((rd_T59 l2 x19_2).f2)) else (none)) else (none)) else (impl_AreWires.j2 k2 l0 a1 l2 x19_2 l2 (l2.length : Int) x19_2 false ((rd_T59 l2 x19_2).f0) ((rd_T59 l2 x19_2).f1) ((rd_T59 l2 x19_2).f2))) = some r := by rw [if_pos rfl] at H; exact H
            clear H
            have H := H1
            clear H1
            by_cases c21 : x19_2 > 0
            ·rw [if_pos c21] at H
             have c21b0 : decide (0 < x19_2) = true := jP c21
             clear c21
             (first | rw [c21b0] | (simp only [i64_w, i32_w]; rw [c21b0]) | skip)
             obtain ⟨ji22, hji22⟩ : ∃ j_ : Int, (wrap64 (x19_2 - 1)) = j_ := ⟨_, rfl⟩
             replace H : (if 0 ≤ (ji22) then (if (ji22) < (l2.length : Int) then (impl_AreWires.j2 k2 l0 a1 l2 x19_2 l2 (l2.length : Int) x19_2 (decide (((rd_T59 l2 (ji22)).f0) ≥ ((rd_T59 l2 x19_2).f0))) ((rd_T59 l2 x19_2).f0) ((rd_T59 l2 x19_2).f1) ((rd_T59 l2 x19_2).f2)) else (none)) else (none)) = some r := by first | (rw [hji22] at H; exact H) | (simp only [hji22] at H ⊢; exact H)
             (try rw [hji22] at A17)
             (try rw [hji22] at A19)
             have hji22w : (IntKind.i64.wrap (x19_2 - 1)) = ji22 := (i64_w _).trans hji22
             by_cases c23 : 0 ≤ (ji22)
             ·rw [if_pos c23] at H
              have c23b0 : decide (0 ≤ (ji22)) = true := jP c23
              clear c23
              by_cases c24 : (ji22) < (l2.length : Int)
              ·rw [if_pos c24] at H
               have c24b0 : decide ((ji22) < (l2.length : Int)) = true := jP c24
               clear c24
               have H' := jA H
               clear H
               try go_wp2
               have n0_ : Aside0 ((((w15.setCell ⟨gb192, 0, none⟩ (.int .i64 ((rd_T59 l2 x19_2).f0))).setCell ⟨gb192, 1, none⟩ (.int .i64 ((rd_T59 l2 x19_2).f1))).setCell ⟨gb192, 2, none⟩ (.int .i64 ((rd_T59 l2 x19_2).f2))).heap[gb192]? = some (.cells #[.int .i64 ((rd_T59 l2 x19_2).f0), .int .i64 ((rd_T59 l2 x19_2).f1), .int .i64 ((rd_T59 l2 x19_2).f2)] 59 (0, 0))) := ⟨by (with_reducible repeat (first | refine jc ?_ _ | refine jb ?_ | refine jd ?_ _)); refine blk_put (cs := #[.int .i64 ((rd_T59 l2 x19_2).f0), .int .i64 ((rd_T59 l2 x19_2).f1), .int .i64 0]) ?_ 2 _ rfl; (with_reducible repeat (first | refine jc ?_ _ | refine jb ?_ | refine jd ?_ _)); refine blk_put (cs := #[.int .i64 ((rd_T59 l2 x19_2).f0), .int .i64 0, .int .i64 0]) ?_ 1 _ rfl; (with_reducible repeat (first | refine jc ?_ _ | refine jb ?_ | refine jd ?_ _)); refine blk_put (cs := #[.int .i64 0, .int .i64 0, .int .i64 0]) ?_ 0 _ rfl; (with_reducible repeat (first | refine jc ?_ _ | refine jb ?_ | refine jd ?_ _)); exact BK192.out⟩
               have n1_ : Aside0 (Below w.heap.size w (((w15.setCell ⟨gb192, 0, none⟩ (.int .i64 ((rd_T59 l2 x19_2).f0))).setCell ⟨gb192, 1, none⟩ (.int .i64 ((rd_T59 l2 x19_2).f1))).setCell ⟨gb192, 2, none⟩ (.int .i64 ((rd_T59 l2 x19_2).f2)))) := ⟨zb1 HB GE192⟩
               (try clear BK192)
               (try clear HB)
               generalize (((w15.setCell ⟨gb192, 0, none⟩ (.int .i64 ((rd_T59 l2 x19_2).f0))).setCell ⟨gb192, 1, none⟩ (.int .i64 ((rd_T59 l2 x19_2).f1))).setCell ⟨gb192, 2, none⟩ (.int .i64 ((rd_T59 l2 x19_2).f2))) = w25 at n0_ n1_ ⊢
               have BK192 := n0_
               have HB := n1_
               clear n0_ n1_
               have n0_ := jA (jb BK192.out)
               have n1_ := jA (jI HB.out)
               clear BK192
               clear HB
               have BK192 := n0_
               have HB := n1_
               clear n0_ n1_
               have p195 : 0 ≤ ((ji22) : Int) := jB za
               have q195 : (ji22) < (l2.length : Int) := jB za
               obtain ⟨ad195, e195, hx195_0, hx195_1, hx195_2⟩ := at_T59 HR2.out (ji22) p195 q195
               have hw195_2 := hx195_2
               have hw195_1 := hx195_1
               have hw195_0 := hx195_0
               obtain rfl : ad191 = ad195 := (by injection e195)
               replace hx195_0 := (HB.out.cell (jC w _ hx195_0)).trans hx195_0
               replace hx195_1 := (HB.out.cell (jC w _ hx195_1)).trans hx195_1
               replace hx195_2 := (HB.out.cell (jC w _ hx195_2)).trans hx195_2
               replace p195 := eq_true p195
               replace q195 := eq_true q195
               refine start_ (n := 30) (S := fun w' => w'.cell? ⟨gb192, 0, none⟩ = some (.int .i64 ((rd_T59 l2 x19_2).f0)) ∧ w'.cell? ⟨gb192, 1, none⟩ = some (.int .i64 ((rd_T59 l2 x19_2).f1)) ∧ w'.cell? ⟨gb192, 2, none⟩ = some (.int .i64 ((rd_T59 l2 x19_2).f2)) ∧ w'.cell? (ad191.add (((ji22)).toNat * 3)) = some (.int .i64 ((rd_T59 l2 (ji22)).f0)) ∧ w'.cell? ⟨(ad191.add (((ji22)).toNat * 3)).block, (ad191.add (((ji22)).toNat * 3)).off + 1, none⟩ = some (.int .i64 ((rd_T59 l2 (ji22)).f1)) ∧ w'.cell? ⟨(ad191.add (((ji22)).toNat * 3)).block, (ad191.add (((ji22)).toNat * 3)).off + 2, none⟩ = some (.int .i64 ((rd_T59 l2 (ji22)).f2))) (ds := []) m30_0 zr rfl rfl ⟨(jF BK192.out 0).trans rfl, (jF BK192.out 1).trans rfl, (jF BK192.out 2).trans rfl, ((HB.out.cell (jC w _ hw195_0)).trans hw195_0), ((HB.out.cell (jC w _ hw195_1)).trans hw195_1), ((HB.out.cell (jC w _ hw195_2)).trans hw195_2)⟩ (fun hHeld => ?_); refine with_tabW impl_AreWires.tab6 impl_AreWires.bits6 (fun HT_ HW_ => ?_)
               generalize w25.drew = w26 at BK192 HB hx195_0 hx195_1 hx195_2 hHeld ⊢
               refine zp HT_ 0 24 m30_20000000 ?_
               refine zp HT_ 2 26 m30_28000000 ?_
               refine zp HT_ 3 27 m30_2c000000 ?_
               refine zt6 HT_ HW_ hHeld 1 25 m30_3c000000 ?_
               refine one_ (i := 4) (N := some 28) m30_3e000000 rfl rfl (one_of HT_.out zr) (by decide) (fun K hK => ?_)
               refine goes_ Try.func61 zr rfl #[.int .i64 ((rd_T59 l2 x19_2).f0), .int .i64 0, .int .i64 (wrap64 (a1 - 1))] (by rfl) rfl rfl zm ?_
               with_reducible refine (impl_within.calls ((rd_T59 l2 x19_2).f0) 0 (wrap64 (a1 - 1)) true _ A17.out).mono ?_
               rintro e w' ⟨rfl, ⟨nd, rfl⟩⟩
               refine ⟨_, rfl, ?_⟩
               refine hK.out _ _ ⟨(jF BK192.out 0).trans rfl, (jF BK192.out 1).trans rfl, (jF BK192.out 2).trans rfl, ((HB.out.cell (jC w _ hw195_0)).trans hw195_0), ((HB.out.cell (jC w _ hw195_1)).trans hw195_1), ((HB.out.cell (jC w _ hw195_2)).trans hw195_2)⟩ (fun hHeld => ?_)
               clear hK K
               refine norm_ (a' := ?_) ?_ ?_
               rotate_left
               ·show Act.put _ (some 28) _ = _
                simp only [Act.put, jO, jT, jU, i64_w, i32_w]
                rfl
               refine zp HT_ 5 29 m30_3f000000 ?_
               refine zp HT_ 6 30 m30_3f800000 ?_
               refine zp HT_ 7 31 m30_3fc00000 ?_
               refine zp HT_ 8 32 m30_3fe00000 ?_
               refine zp HT_ 10 34 m30_3fe80000 ?_
               refine zt6 HT_ HW_ hHeld 9 33 m30_3ff80000 ?_
               refine zt6 HT_ HW_ hHeld 11 35 m30_3ffc0000 ?_
               refine one_ (i := 12) (N := some 36) m30_3ffe0000 rfl rfl (one_of HT_.out zr) (by decide) (fun K hK => ?_)
               refine goes_ Try.func92 zr rfl #[.slice A0 l0.length c0, .int .i64 ((rd_T59 l2 x19_2).f1), .int .i64 ((rd_T59 l2 x19_2).f2)] (by rfl) rfl rfl zm ?_
               with_reducible refine (impl_isPin.calls _ _ l0 ((rd_T59 l2 x19_2).f1) ((rd_T59 l2 x19_2).f2) true _ ?side1 ?side2 A19.out).mono ?_
               (case side1 => repeat (first | exact HR0.out | exact (Kd.C_below HR0.out (zb1 HB GE192)) | (with_reducible refine jR ?_ _) | (with_reducible refine jQ ?_ _) | (with_reducible refine jS ?_)))
               (case side2 => exact HC0.out)
               rintro e w' ⟨rfl, ⟨nd, rfl⟩⟩
               refine ⟨_, rfl, ?_⟩
               refine hK.out _ _ ⟨(jF BK192.out 0).trans rfl, (jF BK192.out 1).trans rfl, (jF BK192.out 2).trans rfl, ((HB.out.cell (jC w _ hw195_0)).trans hw195_0), ((HB.out.cell (jC w _ hw195_1)).trans hw195_1), ((HB.out.cell (jC w _ hw195_2)).trans hw195_2)⟩ (fun hHeld => ?_)
               clear hK K
               refine norm_ (a' := ?_) ?_ ?_
               rotate_left
               ·show Act.put _ (some 36) _ = _
                simp only [Act.put, jO, jT, jU, i64_w, i32_w]
                rfl
               refine zp HT_ 13 37 m30_3fff0000 ?_
               refine zp HT_ 14 38 m30_3fff8000 ?_
               refine zp HT_ 15 39 m30_3fffc000 ?_
               refine zp HT_ 16 40 m30_3fffe000 ?_
               refine zp HT_ 17 41 m30_3ffff000 ?_
               refine zp HT_ 18 42 m30_3ffff800 ?_
               refine zp HT_ 19 43 m30_3ffffc00 ?_
               refine zp HT_ 20 44 m30_3ffffe00 ?_
               refine zp HT_ 21 45 m30_3fffff00 ?_
               refine zp HT_ 22 46 m30_3fffff80 ?_
               refine zp HT_ 23 47 m30_3fffffc0 ?_
               refine zp HT_ 25 49 #[true, true, true, true, true, true, true, true, true, true, true, true, true, true, true, true, true, true, true, true, true, true, true, true, false, true, false, false, false, false] ?_
               refine zt6 HT_ HW_ hHeld 24 48 m30_3ffffff0 ?_
               refine zt6 HT_ HW_ hHeld 26 50 m30_3ffffff8 ?_
               refine zp HT_ 27 51 m30_3ffffffc ?_
               refine zp HT_ 28 52 m30_3ffffffe ?_
               refine zp HT_ 29 53 m30_3fffffff ?_
               refine done_ (done_of HT_.out zr) ?_
               try go_wp2
               go_meet
               case rel => exact ⟨_, (decide (((rd_T59 l2 (ji22)).f0) ≥ ((rd_T59 l2 x19_2).f0))), (by first | rfl | (simp; done) | (simp only [← hji22] <;> (first | rfl | simp)) | (simp [*]; done)), H', ⟨by have := HJ3.out; have := HK2.out; first | omega | exact Nat.le_refl _⟩, ⟨by (with_reducible repeat (first | refine jc ?_ _ | refine jb ?_ | refine jd ?_ _)); exact BK192.out⟩, ⟨zb1 HB GE192⟩⟩
              ·rw [if_neg c24] at H
               exact absurd H (by simp)
             ·rw [if_neg c23] at H
              exact absurd H (by simp)
            ·rw [if_neg c21] at H
             have c21b0 : decide (0 < x19_2) = false := ja c21
             clear c21
             (first | rw [c21b0] | (simp only [i64_w, i32_w]; rw [c21b0]) | skip)
             have H' := jA H
             clear H
             try go_wp2
             have n0_ : Aside0 ((((w15.setCell ⟨gb192, 0, none⟩ (.int .i64 ((rd_T59 l2 x19_2).f0))).setCell ⟨gb192, 1, none⟩ (.int .i64 ((rd_T59 l2 x19_2).f1))).setCell ⟨gb192, 2, none⟩ (.int .i64 ((rd_T59 l2 x19_2).f2))).heap[gb192]? = some (.cells #[.int .i64 ((rd_T59 l2 x19_2).f0), .int .i64 ((rd_T59 l2 x19_2).f1), .int .i64 ((rd_T59 l2 x19_2).f2)] 59 (0, 0))) := ⟨by (with_reducible repeat (first | refine jc ?_ _ | refine jb ?_ | refine jd ?_ _)); refine blk_put (cs := #[.int .i64 ((rd_T59 l2 x19_2).f0), .int .i64 ((rd_T59 l2 x19_2).f1), .int .i64 0]) ?_ 2 _ rfl; (with_reducible repeat (first | refine jc ?_ _ | refine jb ?_ | refine jd ?_ _)); refine blk_put (cs := #[.int .i64 ((rd_T59 l2 x19_2).f0), .int .i64 0, .int .i64 0]) ?_ 1 _ rfl; (with_reducible repeat (first | refine jc ?_ _ | refine jb ?_ | refine jd ?_ _)); refine blk_put (cs := #[.int .i64 0, .int .i64 0, .int .i64 0]) ?_ 0 _ rfl; (with_reducible repeat (first | refine jc ?_ _ | refine jb ?_ | refine jd ?_ _)); exact BK192.out⟩
             have n1_ : Aside0 (Below w.heap.size w (((w15.setCell ⟨gb192, 0, none⟩ (.int .i64 ((rd_T59 l2 x19_2).f0))).setCell ⟨gb192, 1, none⟩ (.int .i64 ((rd_T59 l2 x19_2).f1))).setCell ⟨gb192, 2, none⟩ (.int .i64 ((rd_T59 l2 x19_2).f2)))) := ⟨zb1 HB GE192⟩
             (try clear BK192)
             (try clear HB)
             generalize (((w15.setCell ⟨gb192, 0, none⟩ (.int .i64 ((rd_T59 l2 x19_2).f0))).setCell ⟨gb192, 1, none⟩ (.int .i64 ((rd_T59 l2 x19_2).f1))).setCell ⟨gb192, 2, none⟩ (.int .i64 ((rd_T59 l2 x19_2).f2))) = w27 at n0_ n1_ ⊢
             have BK192 := n0_
             have HB := n1_
             clear n0_ n1_
             have n0_ := jA (jb BK192.out)
             have n1_ := jA (jI HB.out)
             clear BK192
             clear HB
             have BK192 := n0_
             have HB := n1_
             clear n0_ n1_
             refine start_ (n := 30) (S := fun w' => w'.cell? ⟨gb192, 0, none⟩ = some (.int .i64 ((rd_T59 l2 x19_2).f0)) ∧ w'.cell? ⟨gb192, 1, none⟩ = some (.int .i64 ((rd_T59 l2 x19_2).f1)) ∧ w'.cell? ⟨gb192, 2, none⟩ = some (.int .i64 ((rd_T59 l2 x19_2).f2))) (ds := []) m30_0 zr rfl rfl ⟨(jF BK192.out 0).trans rfl, (jF BK192.out 1).trans rfl, (jF BK192.out 2).trans rfl⟩ (fun hHeld => ?_); refine with_tabW impl_AreWires.tab6 impl_AreWires.bits6 (fun HT_ HW_ => ?_)
             generalize w27.drew = w28 at BK192 HB hHeld ⊢
             refine zp HT_ 0 24 m30_20000000 ?_
             refine zp HT_ 2 26 m30_28000000 ?_
             refine zp HT_ 3 27 m30_2c000000 ?_
             refine zt3 HT_ HW_ hHeld 1 25 m30_3c000000 ?_
             refine one_ (i := 4) (N := some 28) m30_3e000000 rfl rfl (one_of HT_.out zr) (by decide) (fun K hK => ?_)
             refine goes_ Try.func61 zr rfl #[.int .i64 ((rd_T59 l2 x19_2).f0), .int .i64 0, .int .i64 (wrap64 (a1 - 1))] (by rfl) rfl rfl zm ?_
             with_reducible refine (impl_within.calls ((rd_T59 l2 x19_2).f0) 0 (wrap64 (a1 - 1)) true _ A17.out).mono ?_
             rintro e w' ⟨rfl, ⟨nd, rfl⟩⟩
             refine ⟨_, rfl, ?_⟩
             refine hK.out _ _ ⟨(jF BK192.out 0).trans rfl, (jF BK192.out 1).trans rfl, (jF BK192.out 2).trans rfl⟩ (fun hHeld => ?_)
             clear hK K
             refine norm_ (a' := ?_) ?_ ?_
             rotate_left
             ·show Act.put _ (some 28) _ = _
              simp only [Act.put, jO, jT, jU, i64_w, i32_w]
              rfl
             refine zp HT_ 5 29 m30_3f000000 ?_
             refine zp HT_ 6 30 m30_3f800000 ?_
             refine zp HT_ 7 31 m30_3fc00000 ?_
             refine zp HT_ 8 32 m30_3fe00000 ?_
             refine zp HT_ 10 34 m30_3fe80000 ?_
             refine zt3 HT_ HW_ hHeld 9 33 m30_3ff80000 ?_
             refine zt3 HT_ HW_ hHeld 11 35 m30_3ffc0000 ?_
             refine one_ (i := 12) (N := some 36) m30_3ffe0000 rfl rfl (one_of HT_.out zr) (by decide) (fun K hK => ?_)
             refine goes_ Try.func92 zr rfl #[.slice A0 l0.length c0, .int .i64 ((rd_T59 l2 x19_2).f1), .int .i64 ((rd_T59 l2 x19_2).f2)] (by rfl) rfl rfl zm ?_
             with_reducible refine (impl_isPin.calls _ _ l0 ((rd_T59 l2 x19_2).f1) ((rd_T59 l2 x19_2).f2) true _ ?side1 ?side2 A19.out).mono ?_
             (case side1 => repeat (first | exact HR0.out | exact (Kd.C_below HR0.out (zb1 HB GE192)) | (with_reducible refine jR ?_ _) | (with_reducible refine jQ ?_ _) | (with_reducible refine jS ?_)))
             (case side2 => exact HC0.out)
             rintro e w' ⟨rfl, ⟨nd, rfl⟩⟩
             refine ⟨_, rfl, ?_⟩
             refine hK.out _ _ ⟨(jF BK192.out 0).trans rfl, (jF BK192.out 1).trans rfl, (jF BK192.out 2).trans rfl⟩ (fun hHeld => ?_)
             clear hK K
             refine norm_ (a' := ?_) ?_ ?_
             rotate_left
             ·show Act.put _ (some 36) _ = _
              simp only [Act.put, jO, jT, jU, i64_w, i32_w]
              rfl
             refine zp HT_ 13 37 m30_3fff0000 ?_
             refine zp HT_ 14 38 m30_3fff8000 ?_
             refine zp HT_ 15 39 m30_3fffc000 ?_
             refine zp HT_ 16 40 m30_3fffe000 ?_
             refine zp HT_ 17 41 m30_3ffff000 ?_
             refine zp HT_ 18 42 m30_3ffff800 ?_
             refine zq HT_ 19 43 m30_3ffffc00 ?_
             refine zq HT_ 20 44 m30_3ffffe00 ?_
             refine zq HT_ 21 45 m30_3fffff00 ?_
             refine zq HT_ 22 46 m30_3fffff80 ?_
             refine zq HT_ 23 47 m30_3fffffc0 ?_
             refine zq HT_ 24 48 m30_3fffffe0 ?_
             refine zq HT_ 25 49 m30_3ffffff0 ?_
             refine zq HT_ 26 50 m30_3ffffff8 ?_
             refine zq HT_ 27 51 m30_3ffffffc ?_
             refine zp HT_ 28 52 m30_3ffffffe ?_
             refine zp HT_ 29 53 m30_3fffffff ?_
             refine done_ (done_of HT_.out zr) ?_
             try go_wp2
             go_meet
             case rel => exact ⟨_, (false), zz, H', ⟨by have := HJ3.out; have := HK2.out; first | omega | exact Nat.le_refl _⟩, ⟨by (with_reducible repeat (first | refine jc ?_ _ | refine jb ?_ | refine jd ?_ _)); exact BK192.out⟩, ⟨zb1 HB GE192⟩⟩
           ·replace c20 := Bool.eq_false_iff.mpr c20
            subst c20
            have H1 : (impl_AreWires.j2 k2 l0 a1 l2 x19_2 l2 (l2.length : Int) x19_2 true ((rd_T59 l2 x19_2).f0) ((rd_T59 l2 x19_2).f1) ((rd_T59 l2 x19_2).f2)) = some r := by rw [if_neg (show ¬ (false = true) by decide)] at H; exact H
            clear H
            have H := H1
            clear H1
            have H' := jA H
            clear H
            try go_wp2
            have n0_ : Aside0 ((((w15.setCell ⟨gb192, 0, none⟩ (.int .i64 ((rd_T59 l2 x19_2).f0))).setCell ⟨gb192, 1, none⟩ (.int .i64 ((rd_T59 l2 x19_2).f1))).setCell ⟨gb192, 2, none⟩ (.int .i64 ((rd_T59 l2 x19_2).f2))).heap[gb192]? = some (.cells #[.int .i64 ((rd_T59 l2 x19_2).f0), .int .i64 ((rd_T59 l2 x19_2).f1), .int .i64 ((rd_T59 l2 x19_2).f2)] 59 (0, 0))) := ⟨by (with_reducible repeat (first | refine jc ?_ _ | refine jb ?_ | refine jd ?_ _)); refine blk_put (cs := #[.int .i64 ((rd_T59 l2 x19_2).f0), .int .i64 ((rd_T59 l2 x19_2).f1), .int .i64 0]) ?_ 2 _ rfl; (with_reducible repeat (first | refine jc ?_ _ | refine jb ?_ | refine jd ?_ _)); refine blk_put (cs := #[.int .i64 ((rd_T59 l2 x19_2).f0), .int .i64 0, .int .i64 0]) ?_ 1 _ rfl; (with_reducible repeat (first | refine jc ?_ _ | refine jb ?_ | refine jd ?_ _)); refine blk_put (cs := #[.int .i64 0, .int .i64 0, .int .i64 0]) ?_ 0 _ rfl; (with_reducible repeat (first | refine jc ?_ _ | refine jb ?_ | refine jd ?_ _)); exact BK192.out⟩
            have n1_ : Aside0 (Below w.heap.size w (((w15.setCell ⟨gb192, 0, none⟩ (.int .i64 ((rd_T59 l2 x19_2).f0))).setCell ⟨gb192, 1, none⟩ (.int .i64 ((rd_T59 l2 x19_2).f1))).setCell ⟨gb192, 2, none⟩ (.int .i64 ((rd_T59 l2 x19_2).f2)))) := ⟨zb1 HB GE192⟩
            (try clear BK192)
            (try clear HB)
            generalize (((w15.setCell ⟨gb192, 0, none⟩ (.int .i64 ((rd_T59 l2 x19_2).f0))).setCell ⟨gb192, 1, none⟩ (.int .i64 ((rd_T59 l2 x19_2).f1))).setCell ⟨gb192, 2, none⟩ (.int .i64 ((rd_T59 l2 x19_2).f2))) = w29 at n0_ n1_ ⊢
            have BK192 := n0_
            have HB := n1_
            clear n0_ n1_
            have n0_ := jA (jb BK192.out)
            have n1_ := jA (jI HB.out)
            clear BK192
            clear HB
            have BK192 := n0_
            have HB := n1_
            clear n0_ n1_
            refine start_ (n := 30) (S := fun w' => w'.cell? ⟨gb192, 0, none⟩ = some (.int .i64 ((rd_T59 l2 x19_2).f0)) ∧ w'.cell? ⟨gb192, 1, none⟩ = some (.int .i64 ((rd_T59 l2 x19_2).f1)) ∧ w'.cell? ⟨gb192, 2, none⟩ = some (.int .i64 ((rd_T59 l2 x19_2).f2))) (ds := []) m30_0 zr rfl rfl ⟨(jF BK192.out 0).trans rfl, (jF BK192.out 1).trans rfl, (jF BK192.out 2).trans rfl⟩ (fun hHeld => ?_); refine with_tabW impl_AreWires.tab6 impl_AreWires.bits6 (fun HT_ HW_ => ?_)
            generalize w29.drew = w30 at BK192 HB hHeld ⊢
            refine zp HT_ 0 24 m30_20000000 ?_
            refine zp HT_ 2 26 m30_28000000 ?_
            refine zp HT_ 3 27 m30_2c000000 ?_
            refine zt3 HT_ HW_ hHeld 1 25 m30_3c000000 ?_
            refine one_ (i := 4) (N := some 28) m30_3e000000 rfl rfl (one_of HT_.out zr) (by decide) (fun K hK => ?_)
            refine goes_ Try.func61 zr rfl #[.int .i64 ((rd_T59 l2 x19_2).f0), .int .i64 0, .int .i64 (wrap64 (a1 - 1))] (by rfl) rfl rfl zm ?_
            with_reducible refine (impl_within.calls ((rd_T59 l2 x19_2).f0) 0 (wrap64 (a1 - 1)) true _ A17.out).mono ?_
            rintro e w' ⟨rfl, ⟨nd, rfl⟩⟩
            refine ⟨_, rfl, ?_⟩
            refine hK.out _ _ ⟨(jF BK192.out 0).trans rfl, (jF BK192.out 1).trans rfl, (jF BK192.out 2).trans rfl⟩ (fun hHeld => ?_)
            clear hK K
            refine norm_ (a' := ?_) ?_ ?_
            rotate_left
            ·show Act.put _ (some 28) _ = _
             simp only [Act.put, jO, jT, jU, i64_w, i32_w]
             rfl
            refine zp HT_ 5 29 m30_3f000000 ?_
            refine zp HT_ 6 30 m30_3f800000 ?_
            refine zp HT_ 7 31 m30_3fc00000 ?_
            refine zp HT_ 8 32 m30_3fe00000 ?_
            refine zp HT_ 10 34 m30_3fe80000 ?_
            refine zt3 HT_ HW_ hHeld 9 33 m30_3ff80000 ?_
            refine zt3 HT_ HW_ hHeld 11 35 m30_3ffc0000 ?_
            refine one_ (i := 12) (N := some 36) m30_3ffe0000 rfl rfl (one_of HT_.out zr) (by decide) (fun K hK => ?_)
            refine goes_ Try.func92 zr rfl #[.slice A0 l0.length c0, .int .i64 ((rd_T59 l2 x19_2).f1), .int .i64 ((rd_T59 l2 x19_2).f2)] (by rfl) rfl rfl zm ?_
            with_reducible refine (impl_isPin.calls _ _ l0 ((rd_T59 l2 x19_2).f1) ((rd_T59 l2 x19_2).f2) false _ ?side1 ?side2 A19.out).mono ?_
            (case side1 => repeat (first | exact HR0.out | exact (Kd.C_below HR0.out (zb1 HB GE192)) | (with_reducible refine jR ?_ _) | (with_reducible refine jQ ?_ _) | (with_reducible refine jS ?_)))
            (case side2 => exact HC0.out)
            rintro e w' ⟨rfl, ⟨nd, rfl⟩⟩
            refine ⟨_, rfl, ?_⟩
            refine hK.out _ _ ⟨(jF BK192.out 0).trans rfl, (jF BK192.out 1).trans rfl, (jF BK192.out 2).trans rfl⟩ (fun hHeld => ?_)
            clear hK K
            refine norm_ (a' := ?_) ?_ ?_
            rotate_left
            ·show Act.put _ (some 36) _ = _
             simp only [Act.put, jO, jT, jU, i64_w, i32_w]
             rfl
            refine zp HT_ 13 37 m30_3fff0000 ?_
            refine zp HT_ 14 38 m30_3fff8000 ?_
            refine zp HT_ 15 39 m30_3fffc000 ?_
            refine zq HT_ 16 40 m30_3fffe000 ?_
            refine zq HT_ 17 41 m30_3ffff000 ?_
            refine zq HT_ 18 42 m30_3ffff800 ?_
            refine zq HT_ 19 43 m30_3ffffc00 ?_
            refine zq HT_ 20 44 m30_3ffffe00 ?_
            refine zq HT_ 21 45 m30_3fffff00 ?_
            refine zq HT_ 22 46 m30_3fffff80 ?_
            refine zq HT_ 23 47 m30_3fffffc0 ?_
            refine zq HT_ 24 48 m30_3fffffe0 ?_
            refine zq HT_ 25 49 m30_3ffffff0 ?_
            refine zq HT_ 26 50 m30_3ffffff8 ?_
            refine zq HT_ 27 51 m30_3ffffffc ?_
            refine zq HT_ 28 52 m30_3ffffffe ?_
            refine zp HT_ 29 53 m30_3fffffff ?_
            refine done_ (done_of HT_.out zr) ?_
            try go_wp2
            go_meet
            case rel => exact ⟨_, (true), zz, H', ⟨by have := HJ3.out; have := HK2.out; first | omega | exact Nat.le_refl _⟩, ⟨by (with_reducible repeat (first | refine jc ?_ _ | refine jb ?_ | refine jd ?_ _)); exact BK192.out⟩, ⟨zb1 HB GE192⟩⟩
          ·replace c18 := Bool.eq_false_iff.mpr c18
           subst c18
           have H1 : (impl_AreWires.j2 k2 l0 a1 l2 x19_2 l2 (l2.length : Int) x19_2 true ((rd_T59 l2 x19_2).f0) ((rd_T59 l2 x19_2).f1) ((rd_T59 l2 x19_2).f2)) = some r := by rw [if_neg (show ¬ (false = true) by decide)] at H; exact H
           clear H
           have H := H1
           clear H1
           have H' := jA H
           clear H
           try go_wp2
           have n0_ : Aside0 ((((w15.setCell ⟨gb192, 0, none⟩ (.int .i64 ((rd_T59 l2 x19_2).f0))).setCell ⟨gb192, 1, none⟩ (.int .i64 ((rd_T59 l2 x19_2).f1))).setCell ⟨gb192, 2, none⟩ (.int .i64 ((rd_T59 l2 x19_2).f2))).heap[gb192]? = some (.cells #[.int .i64 ((rd_T59 l2 x19_2).f0), .int .i64 ((rd_T59 l2 x19_2).f1), .int .i64 ((rd_T59 l2 x19_2).f2)] 59 (0, 0))) := ⟨by (with_reducible repeat (first | refine jc ?_ _ | refine jb ?_ | refine jd ?_ _)); refine blk_put (cs := #[.int .i64 ((rd_T59 l2 x19_2).f0), .int .i64 ((rd_T59 l2 x19_2).f1), .int .i64 0]) ?_ 2 _ rfl; (with_reducible repeat (first | refine jc ?_ _ | refine jb ?_ | refine jd ?_ _)); refine blk_put (cs := #[.int .i64 ((rd_T59 l2 x19_2).f0), .int .i64 0, .int .i64 0]) ?_ 1 _ rfl; (with_reducible repeat (first | refine jc ?_ _ | refine jb ?_ | refine jd ?_ _)); refine blk_put (cs := #[.int .i64 0, .int .i64 0, .int .i64 0]) ?_ 0 _ rfl; (with_reducible repeat (first | refine jc ?_ _ | refine jb ?_ | refine jd ?_ _)); exact BK192.out⟩
           have n1_ : Aside0 (Below w.heap.size w (((w15.setCell ⟨gb192, 0, none⟩ (.int .i64 ((rd_T59 l2 x19_2).f0))).setCell ⟨gb192, 1, none⟩ (.int .i64 ((rd_T59 l2 x19_2).f1))).setCell ⟨gb192, 2, none⟩ (.int .i64 ((rd_T59 l2 x19_2).f2)))) := ⟨zb1 HB GE192⟩
           (try clear BK192)
           (try clear HB)
           generalize (((w15.setCell ⟨gb192, 0, none⟩ (.int .i64 ((rd_T59 l2 x19_2).f0))).setCell ⟨gb192, 1, none⟩ (.int .i64 ((rd_T59 l2 x19_2).f1))).setCell ⟨gb192, 2, none⟩ (.int .i64 ((rd_T59 l2 x19_2).f2))) = w31 at n0_ n1_ ⊢
           have BK192 := n0_
           have HB := n1_
           clear n0_ n1_
           have n0_ := jA (jb BK192.out)
           have n1_ := jA (jI HB.out)
           clear BK192
           clear HB
           have BK192 := n0_
           have HB := n1_
           clear n0_ n1_
           refine start_ (n := 30) (S := fun w' => w'.cell? ⟨gb192, 0, none⟩ = some (.int .i64 ((rd_T59 l2 x19_2).f0)) ∧ w'.cell? ⟨gb192, 1, none⟩ = some (.int .i64 ((rd_T59 l2 x19_2).f1)) ∧ w'.cell? ⟨gb192, 2, none⟩ = some (.int .i64 ((rd_T59 l2 x19_2).f2))) (ds := []) m30_0 zr rfl rfl ⟨(jF BK192.out 0).trans rfl, (jF BK192.out 1).trans rfl, (jF BK192.out 2).trans rfl⟩ (fun hHeld => ?_); refine with_tabW impl_AreWires.tab6 impl_AreWires.bits6 (fun HT_ HW_ => ?_)
           generalize w31.drew = w32 at BK192 HB hHeld ⊢
           refine zp HT_ 0 24 m30_20000000 ?_
           refine zp HT_ 2 26 m30_28000000 ?_
           refine zp HT_ 3 27 m30_2c000000 ?_
           refine zt3 HT_ HW_ hHeld 1 25 m30_3c000000 ?_
           refine one_ (i := 4) (N := some 28) m30_3e000000 rfl rfl (one_of HT_.out zr) (by decide) (fun K hK => ?_)
           refine goes_ Try.func61 zr rfl #[.int .i64 ((rd_T59 l2 x19_2).f0), .int .i64 0, .int .i64 (wrap64 (a1 - 1))] (by rfl) rfl rfl zm ?_
           with_reducible refine (impl_within.calls ((rd_T59 l2 x19_2).f0) 0 (wrap64 (a1 - 1)) false _ A17.out).mono ?_
           rintro e w' ⟨rfl, ⟨nd, rfl⟩⟩
           refine ⟨_, rfl, ?_⟩
           refine hK.out _ _ ⟨(jF BK192.out 0).trans rfl, (jF BK192.out 1).trans rfl, (jF BK192.out 2).trans rfl⟩ (fun hHeld => ?_)
           clear hK K
           refine norm_ (a' := ?_) ?_ ?_
           rotate_left
           ·show Act.put _ (some 28) _ = _
            simp only [Act.put, jO, jT, jU, i64_w, i32_w]
            rfl
           refine zp HT_ 5 29 m30_3f000000 ?_
           refine zp HT_ 6 30 m30_3f800000 ?_
           refine zq HT_ 7 31 m30_3fc00000 ?_
           refine zq HT_ 8 32 m30_3fe00000 ?_
           refine zq HT_ 9 33 #[true, true, true, true, true, true, true, true, true, true, false, false, false, false, false, false, false, false, false, false, false, false, false, false, false, false, false, false, false, false] ?_
           refine zq HT_ 10 34 m30_3ff80000 ?_
           refine zq HT_ 11 35 m30_3ffc0000 ?_
           refine zq HT_ 12 36 m30_3ffe0000 ?_
           refine zq HT_ 13 37 m30_3fff0000 ?_
           refine zp HT_ 14 38 m30_3fff8000 ?_
           refine zp HT_ 15 39 m30_3fffc000 ?_
           refine zq HT_ 16 40 m30_3fffe000 ?_
           refine zq HT_ 17 41 m30_3ffff000 ?_
           refine zq HT_ 18 42 m30_3ffff800 ?_
           refine zq HT_ 19 43 m30_3ffffc00 ?_
           refine zq HT_ 20 44 m30_3ffffe00 ?_
           refine zq HT_ 21 45 m30_3fffff00 ?_
           refine zq HT_ 22 46 m30_3fffff80 ?_
           refine zq HT_ 23 47 m30_3fffffc0 ?_
           refine zq HT_ 24 48 m30_3fffffe0 ?_
           refine zq HT_ 25 49 m30_3ffffff0 ?_
           refine zq HT_ 26 50 m30_3ffffff8 ?_
           refine zq HT_ 27 51 m30_3ffffffc ?_
           refine zq HT_ 28 52 m30_3ffffffe ?_
           refine zp HT_ 29 53 m30_3fffffff ?_
           refine done_ (done_of HT_.out zr) ?_
           try go_wp2
           go_meet
           case rel => exact ⟨_, (true), zz, H', ⟨by have := HJ3.out; have := HK2.out; first | omega | exact Nat.le_refl _⟩, ⟨by (with_reducible repeat (first | refine jc ?_ _ | refine jb ?_ | refine jd ?_ _)); exact BK192.out⟩, ⟨zb1 HB GE192⟩⟩
         case rest =>
          clear HC14
          try clear c1
          try clear c2
          try clear p2
          try clear c6
          try clear p6
          try clear c9
          try clear c18
          try clear c20
          obtain ⟨kq, x53_13, rfl, HA, HJ13, BK192, HB⟩ := hcut
          cases kq with
          | zero => exact absurd HA.out (by simp [impl_AreWires.j2])
          | succ kj13 =>
           have H := HA.out
           clear HA
           simp only [impl_AreWires.j2] at H
           by_cases c33 : x53_13 = true
           ·subst c33
            have H1 : (some false) = some r := by rw [if_pos rfl] at H; exact H
            clear H
            have H := H1
            clear H1
            obtain rfl := jW H
            go_wp2
            go_ret
            exact ⟨by first | rfl | (simp [errW_none, errW_some] <;> rfl) | (simp [*, errW_none, errW_some] <;> rfl), zb1 HB GE192⟩
           ·replace c33 := Bool.eq_false_iff.mpr c33
            subst c33
            have H1 : (if 0 ≤ x19_2 then (if x19_2 ≤ (l2.length : Int) then ((impl_cueAt.f kj13 (l2.take (x19_2 : Int).toNat) ((rd_T59 l2 x19_2).f1) ((rd_T59 l2 x19_2).f2)).bind fun t200 => (if t200 ≥ 0 then (some false) else (impl_AreWires.l0 kj13 l0 a1 l2 l2 (l2.length : Int) (wrap64 (x19_2 + 1))))) else (none)) else (none)) = some r := by rw [if_neg (show ¬ (false = true) by decide)] at H; exact H
            clear H
            have H := H1
            clear H1
            by_cases c34 : 0 ≤ x19_2
            ·rw [if_pos c34] at H
             have c34b0 := eq_true c34
             have c34b1 : decide (0 ≤ x19_2) = true := jP c34
             clear c34
             by_cases c35 : x19_2 ≤ (l2.length : Int)
             ·rw [if_pos c35] at H
              have c35b0 := eq_true c35
              have c35b1 : decide (x19_2 ≤ (l2.length : Int)) = true := jP c35
              clear c35
              obtain ⟨y196, hy196⟩ : ∃ y_ : List (S59), y_ = (l2.take (x19_2 : Int).toNat) := ⟨_, rfl⟩
              replace H : ((impl_cueAt.f kj13 y196 ((rd_T59 l2 x19_2).f1) ((rd_T59 l2 x19_2).f2)).bind fun t200 => (if t200 ≥ 0 then (some false) else (impl_AreWires.l0 kj13 l0 a1 l2 l2 (l2.length : Int) (wrap64 (x19_2 + 1))))) = some r := by first | (rw [hy196]; with_reducible exact H) | (have H2_ := (Option.bind_some _ _).symm.trans H; rw [hy196]; with_reducible exact H2_) | (have H2_ := (Option.bind_some _ _).symm.trans H; with_reducible exact H2_) | with_reducible exact H | (rw [hy196]; exact H) | exact H
              have Ny196 := jA hy196
              clear hy196
              replace H := jD.mp H
              obtain ⟨t200, A360, H⟩ := H
              replace H : (if t200 ≥ 0 then (some false) else (impl_AreWires.l0 kj13 l0 a1 l2 l2 (l2.length : Int) (wrap64 (x19_2 + 1)))) = some r := H
              have A36 := jA A360
              clear A360
              by_cases c37 : t200 ≥ 0
              ·rw [if_pos c37] at H
               have c37b0 : decide (0 ≤ t200) = true := jP c37
               clear c37
               obtain rfl := jW H
               try go_wp2
               have n0_ := jA (jb BK192.out)
               have n1_ := jA (jI HB.out)
               clear BK192
               clear HB
               have BK192 := n0_
               have HB := n1_
               clear n0_ n1_
               have q39 : (x19_2 : Int) ≤ ((l2.length : Int) : Int) := jB za
               obtain ⟨i039, hi039, _, hsz39, _⟩ := info_parts info59
               have hroom39 : l2.length ≤ c2 := HC2.out
               have hC39 : Kd.C k59 _ (some ad191) l2.length l2 := HR2.out
               have hcut39 := cut_to (P := Try.prog) 50 59 .i64 Try.underlying50 hi039 (some ad191) l2.length c2 x19_2 (jB za) q39 hroom39
               have hr39 := Kd.C_take (m := (x19_2 : Int).toNat) hC39 (by omega)
               have hy39 : y196.length = (x19_2 : Int).toNat := (by rw [Ny196.out, List.length_take]; omega)
               rw [← Ny196.out] at hr39
               rw [← hy39] at hcut39
               have HR199 := jA hr39
               have HC199 := jA (show y196.length ≤ c2 from by omega)
               clear hr39 hC39 hroom39 hi039 hsz39
               have KY39 := jA hy39
               clear hy39
               replace q39 := eq_true q39
               refine start_ (n := 9) (S := fun w' => w'.cell? ⟨gb192, 0, none⟩ = some (.int .i64 ((rd_T59 l2 x19_2).f0)) ∧ w'.cell? ⟨gb192, 1, none⟩ = some (.int .i64 ((rd_T59 l2 x19_2).f1)) ∧ w'.cell? ⟨gb192, 2, none⟩ = some (.int .i64 ((rd_T59 l2 x19_2).f2))) (ds := []) m9_0 zr rfl rfl ⟨(jF BK192.out 0).trans rfl, (jF BK192.out 1).trans rfl, (jF BK192.out 2).trans rfl⟩ (fun hHeld => ?_); refine with_tabW impl_AreWires.tab8 impl_AreWires.bits8 (fun HT_ HW_ => ?_)
               generalize wc.drew = w38 at BK192 HB HR199 hHeld ⊢
               refine zp HT_ 0 54 m9_100 ?_
               refine zp HT_ 1 55 m9_180 ?_
               refine zp HT_ 2 56 m9_1c0 ?_
               refine zp HT_ 3 57 m9_1e0 ?_
               refine zp HT_ 5 59 m9_1e8 ?_
               refine zt3 HT_ HW_ hHeld 4 58 m9_1f8 ?_
               refine zt3 HT_ HW_ hHeld 6 60 m9_1fc ?_
               refine one_ (i := 7) (N := some 61) m9_1fe rfl rfl (one_of HT_.out zr) (by decide) (fun K hK => ?_)
               refine goes_ Try.func93 zr rfl #[.slice (some ad191) y196.length c2, .int .i64 ((rd_T59 l2 x19_2).f1), .int .i64 ((rd_T59 l2 x19_2).f2)] (by rfl) rfl rfl zm ?_
               with_reducible refine (impl_cueAt.calls kj13 _ _ y196 ((rd_T59 l2 x19_2).f1) ((rd_T59 l2 x19_2).f2) t200 _ ?side1 ?side2 A36.out).mono ?_
               (case side1 => exact zs HR199 HB)
               (case side2 => exact HC199.out)
               rintro e w40 ⟨rfl, hb⟩
               refine ⟨_, rfl, ?_⟩
               have n0_ := jA (blk_below (g := gb192) (o := .cells #[.int .i64 ((rd_T59 l2 x19_2).f0), .int .i64 ((rd_T59 l2 x19_2).f1), .int .i64 ((rd_T59 l2 x19_2).f2)] 59 (0, 0)) (zk BK192) hb)
               have n1_ := jA (jV (zb1 HB GE192) hb)
               clear BK192
               clear HB
               have BK192 := n0_
               have HB := n1_
               clear n0_ n1_
               (try clear hb)
               (try clear hb2)
               (try clear hk)
               (try clear hi)
               refine hK.out _ _ ⟨(jF BK192.out 0).trans rfl, (jF BK192.out 1).trans rfl, (jF BK192.out 2).trans rfl⟩ (fun hHeld => ?_)
               clear hK K
               refine norm_ (a' := ?_) ?_ ?_
               rotate_left
               ·show Act.put _ (some 61) _ = _
                simp only [Act.put, jO, jT, jU, i64_w, i32_w]
                rfl
               refine zp HT_ 8 62 m9_1ff ?_
               refine done_ (done_of HT_.out zr) ?_
               try go_wp2
               go_ret
               exact ⟨by first | rfl | (simp [errW_none, errW_some] <;> rfl) | (simp [*, errW_none, errW_some] <;> rfl), zb1 HB GE192⟩
              ·rw [if_neg c37] at H
               have c37b0 : decide (0 ≤ t200) = false := ja c37
               clear c37
               have H' := jA H
               clear H
               try go_wp2
               have n0_ := jA (jb BK192.out)
               have n1_ := jA (jI HB.out)
               clear BK192
               clear HB
               have BK192 := n0_
               have HB := n1_
               clear n0_ n1_
               have q42 : (x19_2 : Int) ≤ ((l2.length : Int) : Int) := jB za
               obtain ⟨i042, hi042, _, hsz42, _⟩ := info_parts info59
               have hroom42 : l2.length ≤ c2 := HC2.out
               have hC42 : Kd.C k59 _ (some ad191) l2.length l2 := HR2.out
               (try clear hcut39)
               have hcut42 := cut_to (P := Try.prog) 50 59 .i64 Try.underlying50 hi042 (some ad191) l2.length c2 x19_2 (jB za) q42 hroom42
               have hr42 := Kd.C_take (m := (x19_2 : Int).toNat) hC42 (by omega)
               have hy42 : y196.length = (x19_2 : Int).toNat := (by rw [Ny196.out, List.length_take]; omega)
               rw [← Ny196.out] at hr42
               rw [← hy42] at hcut42
               have HR199 := jA hr42
               have HC199 := jA (show y196.length ≤ c2 from by omega)
               clear hr42 hC42 hroom42 hi042 hsz42
               have KY42 := jA hy42
               clear hy42
               replace q42 := eq_true q42
               refine start_ (n := 9) (S := fun w' => w'.cell? ⟨gb192, 0, none⟩ = some (.int .i64 ((rd_T59 l2 x19_2).f0)) ∧ w'.cell? ⟨gb192, 1, none⟩ = some (.int .i64 ((rd_T59 l2 x19_2).f1)) ∧ w'.cell? ⟨gb192, 2, none⟩ = some (.int .i64 ((rd_T59 l2 x19_2).f2))) (ds := []) m9_0 zr rfl rfl ⟨(jF BK192.out 0).trans rfl, (jF BK192.out 1).trans rfl, (jF BK192.out 2).trans rfl⟩ (fun hHeld => ?_); refine with_tabW impl_AreWires.tab8 impl_AreWires.bits8 (fun HT_ HW_ => ?_)
               generalize wc.drew = w41 at BK192 HB HR199 hHeld ⊢
               refine zp HT_ 0 54 m9_100 ?_
               refine zp HT_ 1 55 m9_180 ?_
               refine zp HT_ 2 56 m9_1c0 ?_
               refine zp HT_ 3 57 m9_1e0 ?_
               refine zp HT_ 5 59 m9_1e8 ?_
               refine zt3 HT_ HW_ hHeld 4 58 m9_1f8 ?_
               refine zt3 HT_ HW_ hHeld 6 60 m9_1fc ?_
               refine one_ (i := 7) (N := some 61) m9_1fe rfl rfl (one_of HT_.out zr) (by decide) (fun K hK => ?_)
               refine goes_ Try.func93 zr rfl #[.slice (some ad191) y196.length c2, .int .i64 ((rd_T59 l2 x19_2).f1), .int .i64 ((rd_T59 l2 x19_2).f2)] (by rfl) rfl rfl zm ?_
               with_reducible refine (impl_cueAt.calls kj13 _ _ y196 ((rd_T59 l2 x19_2).f1) ((rd_T59 l2 x19_2).f2) t200 _ ?side1 ?side2 A36.out).mono ?_
               (case side1 => exact zs HR199 HB)
               (case side2 => exact HC199.out)
               rintro e w43 ⟨rfl, hb⟩
               refine ⟨_, rfl, ?_⟩
               have n0_ := jA (blk_below (g := gb192) (o := .cells #[.int .i64 ((rd_T59 l2 x19_2).f0), .int .i64 ((rd_T59 l2 x19_2).f1), .int .i64 ((rd_T59 l2 x19_2).f2)] 59 (0, 0)) (zk BK192) hb)
               have n1_ := jA (jV (zb1 HB GE192) hb)
               clear BK192
               clear HB
               have BK192 := n0_
               have HB := n1_
               clear n0_ n1_
               (try clear hb)
               (try clear hb2)
               (try clear hk)
               (try clear hi)
               refine hK.out _ _ ⟨(jF BK192.out 0).trans rfl, (jF BK192.out 1).trans rfl, (jF BK192.out 2).trans rfl⟩ (fun hHeld => ?_)
               clear hK K
               refine norm_ (a' := ?_) ?_ ?_
               rotate_left
               ·show Act.put _ (some 61) _ = _
                simp only [Act.put, jO, jT, jU, i64_w, i32_w]
                rfl
               refine zp HT_ 8 62 m9_1ff ?_
               refine done_ (done_of HT_.out zr) ?_
               try go_wp2
               go_roundg kj13
               case measure => have := HJ3.out; have := HK2.out; have := HJ13.out; omega
               case rel => exact ⟨(wrap64 (x19_2 + 1)), zz, H', ⟨by have := HJ3.out; have := HK2.out; have := HJ13.out; omega⟩, ⟨zb1 HB GE192⟩⟩
             ·rw [if_neg c35] at H
              exact absurd H (by simp)
            ·rw [if_neg c34] at H
             exact absurd H (by simp)
        ·rw [if_neg c13] at H
         exact absurd H (by simp)
       ·rw [if_neg c12] at H
        exact absurd H (by simp)
      ·rw [if_neg c11] at H
       have c11b0 : decide (x19_2 < (l2.length : Int)) = false := ja c11
       clear c11
       obtain rfl := jW H
       go_wp2
       go_ret
       exact ⟨by first | rfl | (simp [errW_none, errW_some] <;> rfl) | (simp [*, errW_none, errW_some] <;> rfl), zb0 HB⟩

end Go.Proofs.Ytddejaomlnldiaa.PFnStops
