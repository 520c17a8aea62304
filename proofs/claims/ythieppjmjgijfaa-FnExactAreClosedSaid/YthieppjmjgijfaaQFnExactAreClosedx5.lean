/- Functions and contracts that FnExactAreClosed reaches (6 of 10). -/
import Derived.Test.YthieppjmjgijfaaQFnExactAreClosedx4
namespace Go.Proofs.Ythieppjmjgijfaa.PFnExactAreClosed
open Go.RowKit Go.Proofs.YthieppjmjgijfaaW.PrintWords Go.Proofs.YthieppjmjgijfaaW.PrintLast Go.Proofs.YthieppjmjgijfaaW.PrintMore
attribute [local go_sem] max2_int min2_int max_two min_two max_three min_three max_four min_four   -- for this text's walks alone
set_option linter.unusedVariables false
set_option linter.unusedSimpArgs false
open Go.Proofs.YthieppjmjgijfaaX

/-! ### spec_l25Safe: function 58 -/
def spec_l25Safe.l0 : Nat → List Int → List Int → Int → Option (Int)
 | 0, _, _, _ => none
 | k + 1, x0, x1, x5 => if x5 < (x0.length : Int) then (if 0 ≤ x5 then ((spec_l25Is.f (rd x0 x5)).bind fun t208 => (if t208 = true then (if x5 > 0 then (if 0 ≤ (wrap64 (x5 - 1)) then (if (wrap64 (x5 - 1)) < (x0.length : Int) then (if (rd x0 (wrap64 (x5 - 1))) ≥ (rd x0 x5) then (some 1) else (spec_l25Safe.l0 k x0 x1 (wrap64 (x5 + 1)))) else (none)) else (none)) else (spec_l25Safe.l0 k x0 x1 (wrap64 (x5 + 1)))) else (some 1))) else (none)) else ((spec_l25Code.f k false false false false false 0 x1).bind fun t211 => (some t211))
def spec_l25Safe.f (k : Nat) (l0 : List Int) (l1 : List Int) : Option (Int) := spec_l25Safe.l0 k l0 l1 0
theorem spec_l25Safe.mono_l : ∀ k, (∀ y0 y1 y2, LeO (spec_l25Safe.l0 k y0 y1 y2) (spec_l25Safe.l0 (k + 1) y0 y1 y2))
 | 0 => fun _ _ _ r h => by simp [spec_l25Safe.l0] at h
 | k + 1 => by
  have ih0 := spec_l25Safe.mono_l k
  ·intro y0 y1 y2
   unfold spec_l25Safe.l0
   repeat' first
   | (with_reducible exact ih0 _ _ _)
   | (with_reducible exact spec_l25Code.mono _ _ _ _ _ _ _ _)
   | (with_reducible exact LeO.refl _)
   | (with_reducible exact LeO.none _)
   | (with_reducible refine LeO.ite ?_ ?_)
   | (with_reducible refine LeO.bind ?_ (fun _ => ?_))
   | exact ih0 _ _ _
   | exact spec_l25Code.mono _ _ _ _ _ _ _ _
   | exact LeO.none _
   | refine LeO.ite ?_ ?_
   | refine LeO.bind ?_ (fun _ => ?_)
theorem spec_l25Safe.mono : ∀ a0 a1 k, LeO (spec_l25Safe.f k a0 a1) (spec_l25Safe.f (k + 1) a0 a1) := by
 intro a0 a1 k
 have ih0 := spec_l25Safe.mono_l k
 unfold spec_l25Safe.f
 repeat' first
   | (with_reducible exact ih0 _ _ _)
   | (with_reducible exact spec_l25Code.mono _ _ _ _ _ _ _ _)
   | (with_reducible exact LeO.refl _)
   | (with_reducible exact LeO.none _)
   | (with_reducible refine LeO.ite ?_ ?_)
   | (with_reducible refine LeO.bind ?_ (fun _ => ?_))
   | exact ih0 _ _ _
   | exact spec_l25Code.mono _ _ _ _ _ _ _ _
   | exact LeO.none _
   | refine LeO.ite ?_ ?_
   | refine LeO.bind ?_ (fun _ => ?_)
def spec_l25Safe.T4 : Bool × List (List Nat × List Nat) := (true, [([], []), ([], []), ([0, 1], [0, 1]), ([2], [2]), ([3], [3]), ([4], [4]), ([5, 4], [5]), ([6], [6]), ([7, 6], [6, 7]), ([8, 6, 6], [6, 8]), ([9], [9]), ([9], [9]), ([11, 9], [9, 11]), ([10, 12, 9], [9, 10, 12]), ([13, 9], [9, 13]), ([9], [9]), ([9], [9]), ([15, 16, 9], [9, 15, 16]), ([17, 9], [9, 17]), ([14, 18, 9], [9, 14, 18]), ([9, 19, 6], [6, 9, 19]), ([6, 20], [6, 20])])
def spec_l25Safe.B4 : List Nat := [0, 0, 3, 7, 15, 31, 63, 127, 255, 511, 1023, 1023, 3071, 8191, 16383, 1023, 1023, 99327, 230399, 524287, 1048575, 2097151]
theorem spec_l25Safe.tab4 : rtab .any (opsOf Try.f58 4) = spec_l25Safe.T4 := by kernel_rfl
theorem spec_l25Safe.bits4 : waitsOk spec_l25Safe.T4.2 spec_l25Safe.B4 = true := by kernel_rfl
set_option maxHeartbeats 8000000 in
set_option maxRecDepth 100000 in
theorem spec_l25Safe.calls (k : Nat) (A0 : Option Addr) (c0 : Nat) (l0 : List Int) (A1 : Option Addr) (c1 : Nat) (l1 : List Int) (r : Int) (w : World) (hr0 : Kd.C (Kd.int .i64) w A0 l0.length l0) (hc0 : l0.length ≤ c0) (hr1 : Kd.C (Kd.int .i64) w A1 l1.length l1) (hc1 : l1.length ≤ c1) (h : spec_l25Safe.f k l0 l1 = some r) :
  Calls Try.prog 58 #[.slice A0 l0.length c0, .slice A1 l1.length c1] w fun e w' => e = .returned (.int .i64 r) ∧ Below w.heap.size w w' := by
 have hu23 := Try.underlying23
 have HR0 := jA hr0
 have HC0 := jA hc0
 clear hr0 hc0
 have HR1 := jA hr1
 have HC1 := jA hc1
 clear hr1 hc1
 have HB := jA (Below.refl w.heap.size w)
 have H : (spec_l25Safe.l0 k l0 l1 0) = some r := h
 clear h
 have H' := jA H
 clear H
 go_enter Try.func58, Try.ntmps58
 go_wp2
 go_loopg [5] k (fun kq v5 w' => ∃ (x5_1 : Int), v5 = .int .i64 x5_1 ∧ Aside0 (spec_l25Safe.l0 kq l0 l1 x5_1 = some r) ∧ Aside0 (kq ≤ k) ∧ Aside0 (Below w.heap.size w w'))
 case atStart => exact ⟨(0), zz, H', ⟨Nat.le_refl _⟩, ⟨zb0 HB⟩⟩
 case round =>
  clear H'
  try clear c1
  try clear p2
  obtain ⟨x5_1, rfl, HA, HK1, HB⟩ := hrel
  cases gk with
  | zero => exact absurd HA.out (by simp [spec_l25Safe.l0])
  | succ k1 =>
   have H := HA.out
   clear HA
   simp only [spec_l25Safe.l0] at H
   by_cases c3 : x5_1 < (l0.length : Int)
   ·rw [if_pos c3] at H
    have c3b0 : decide (x5_1 < (l0.length : Int)) = true := jP c3
    clear c3
    by_cases c4 : 0 ≤ x5_1
    ·rw [if_pos c4] at H
     have c4b0 : decide (0 ≤ x5_1) = true := jP c4
     clear c4
     replace H := jN.mp H
     obtain ⟨t208, A50, H⟩ := H
     replace H : (if t208 = true then (if x5_1 > 0 then (if 0 ≤ (wrap64 (x5_1 - 1)) then (if (wrap64 (x5_1 - 1)) < (l0.length : Int) then (if (rd l0 (wrap64 (x5_1 - 1))) ≥ (rd l0 x5_1) then (some 1) else (spec_l25Safe.l0 k1 l0 l1 (wrap64 (x5_1 + 1)))) else (none)) else (none)) else (spec_l25Safe.l0 k1 l0 l1 (wrap64 (x5_1 + 1)))) else (some 1)) = some r := H
     have A5 := jA A50
     clear A50
     by_cases c6 : t208 = true
     ·subst c6
      have H1 : (if x5_1 > 0 then (if 0 ≤ (wrap64 (x5_1 - 1)) then (if (wrap64 (x5_1 - 1)) < (l0.length : Int) then (if (rd l0 (wrap64 (x5_1 - 1))) ≥ (rd l0 x5_1) then (some 1) else (spec_l25Safe.l0 k1 l0 l1 (wrap64 (x5_1 + 1)))) else (none)) else (none)) else (spec_l25Safe.l0 k1 l0 l1 (wrap64 (x5_1 + 1)))) = some r := by rw [if_pos rfl] at H; exact H
      clear H
      have H := H1
      clear H1
      by_cases c7 : x5_1 > 0
      ·rw [if_pos c7] at H
       have c7b0 : decide (0 < x5_1) = true := jP c7
       clear c7
       obtain ⟨ji8, hji8⟩ : ∃ j_ : Int, (wrap64 (x5_1 - 1)) = j_ := ⟨_, rfl⟩
       replace H : (if 0 ≤ (ji8) then (if (ji8) < (l0.length : Int) then (if (rd l0 (ji8)) ≥ (rd l0 x5_1) then (some 1) else (spec_l25Safe.l0 k1 l0 l1 (wrap64 (x5_1 + 1)))) else (none)) else (none)) = some r := by first | (rw [hji8] at H; exact H) | (simp only [hji8] at H ⊢; exact H)
       (try rw [hji8] at A5)
       have hji8w : (IntKind.i64.wrap (x5_1 - 1)) = ji8 := (i64_w _).trans hji8
       by_cases c9 : 0 ≤ (ji8)
       ·rw [if_pos c9] at H
        have c9b0 : decide (0 ≤ (ji8)) = true := jP c9
        clear c9
        by_cases c10 : (ji8) < (l0.length : Int)
        ·rw [if_pos c10] at H
         have c10b0 : decide ((ji8) < (l0.length : Int)) = true := jP c10
         clear c10
         by_cases c11 : (rd l0 (ji8)) ≥ (rd l0 x5_1)
         ·rw [if_pos c11] at H
          have c11b0 : decide ((rd l0 x5_1) ≤ (rd l0 (ji8))) = true := jP c11
          clear c11
          obtain rfl := jR H
          try go_wp2
          have n0_ := jA (below_drew1 HB.out)
          clear HB
          have HB := n0_
          clear n0_
          have p207 : 0 ≤ (x5_1 : Int) := jI za
          have q207 : x5_1 < (l0.length : Int) := jI za
          obtain ⟨ad207, e207, hx207_0⟩ := jc HR0.out x5_1 p207 q207
          have hw207_0 := hx207_0
          cases e207
          replace hx207_0 := (HB.out.cell (jH w _ hx207_0)).trans hx207_0
          replace p207 := eq_true p207
          replace q207 := eq_true q207
          have p209 : 0 ≤ ((ji8) : Int) := jI za
          have q209 : (ji8) < (l0.length : Int) := jI za
          obtain ⟨ad209, e209, hx209_0⟩ := jc HR0.out (ji8) p209 q209
          have hw209_0 := hx209_0
          obtain rfl : ad207 = ad209 := (by injection e209)
          replace hx209_0 := (HB.out.cell (jH w _ hx209_0)).trans hx209_0
          replace p209 := eq_true p209
          replace q209 := eq_true q209
          have p210 : 0 ≤ (x5_1 : Int) := jI za
          have q210 : x5_1 < (l0.length : Int) := jI za
          obtain ⟨ad210, e210, hx210_0⟩ := jc HR0.out x5_1 p210 q210
          have hw210_0 := hx210_0
          obtain rfl : ad207 = ad210 := (by injection e210)
          replace hx210_0 := (HB.out.cell (jH w _ hx210_0)).trans hx210_0
          replace p210 := eq_true p210
          replace q210 := eq_true q210
          refine start_ (n := 22) (S := fun w' => w'.cell? (ad207.add (x5_1).toNat) = some (.int .i64 (rd l0 x5_1)) ∧ w'.cell? (ad207.add ((ji8)).toNat) = some (.int .i64 (rd l0 (ji8))) ∧ w'.cell? (ad207.add (x5_1).toNat) = some (.int .i64 (rd l0 x5_1))) (ds := []) m22_0 zr rfl rfl ⟨((HB.out.cell (jH w _ hw207_0)).trans hw207_0), ((HB.out.cell (jH w _ hw209_0)).trans hw209_0), ((HB.out.cell (jH w _ hw210_0)).trans hw210_0)⟩ (fun hHeld => ?_); refine with_tabW spec_l25Safe.tab4 spec_l25Safe.bits4 (fun HT_ HW_ => ?_)
          generalize wr.drew = w12 at HB hx207_0 hx209_0 hx210_0 hHeld ⊢
          refine zp HT_ 0 12 m22_200000 ?_
          refine zp HT_ 1 13 m22_300000 ?_
          refine zp HT_ 2 14 m22_380000 ?_
          refine zt3 HT_ HW_ hHeld 3 15 m22_3c0000 ?_
          refine one_ (i := 4) (N := some 16) m22_3e0000 rfl rfl (one_of HT_.out zr) (by decide) (fun K hK => ?_)
          refine goes_ Try.func47 zr rfl #[.int .i64 (rd l0 x5_1)] (by rfl) rfl rfl zm ?_
          with_reducible refine (spec_l25Is.calls (rd l0 x5_1) true _ A5.out).mono ?_
          rintro e w13 ⟨rfl, hb⟩
          refine ⟨_, rfl, ?_⟩
          have n0_ := jA (jK (zb0 HB) hb)
          clear HB
          have HB := n0_
          clear n0_
          (try clear hb)
          (try clear hb2)
          (try clear hk)
          (try clear hi)
          refine hK.out _ _ ⟨((HB.out.cell (jH w _ hw207_0)).trans hw207_0), ((HB.out.cell (jH w _ hw209_0)).trans hw209_0), ((HB.out.cell (jH w _ hw210_0)).trans hw210_0)⟩ (fun hHeld => ?_)
          clear hK K
          refine norm_ (a' := ?_) ?_ ?_
          rotate_left
          ·show Act.put _ (some 16) _ = _
           simp only [Act.put, jT, ja, jb, i64_w, i32_w]
           rfl
          refine zp HT_ 5 17 m22_3f0000 ?_
          refine zp HT_ 6 18 m22_3f8000 ?_
          refine zp HT_ 7 19 m22_3fc000 ?_
          refine zp HT_ 8 20 m22_3fe000 ?_
          refine zp HT_ 9 21 m22_3ff000 ?_
          refine zp HT_ 10 22 m22_3ff800 ?_
          refine zp HT_ 11 23 m22_3ffc00 ?_
          refine zp HT_ 12 24 m22_3ffe00 ?_
          refine zp HT_ 13 25 m22_3fff00 ?_
          refine zp HT_ 15 27 m22_3fff40 ?_
          refine zp HT_ 16 28 m22_3fff60 ?_
          refine zp HT_ 17 29 m22_3fff70 ?_
          refine zt3 HT_ HW_ hHeld 14 26 m22_3ffff0 ?_
          refine zt3 HT_ HW_ hHeld 18 30 m22_3ffff8 ?_
          refine zp HT_ 19 31 m22_3ffffc ?_
          refine zp HT_ 20 32 m22_3ffffe ?_
          refine zp HT_ 21 33 m22_3fffff ?_
          refine done_ (done_of HT_.out zr) ?_
          try go_wp2
          go_ret
          exact ⟨by first | rfl | (simp [errW_none, errW_some] <;> rfl) | (simp only [← hji8]; first | rfl | (simp [errW_none, errW_some] <;> rfl)) | (simp [*, errW_none, errW_some] <;> rfl), zb0 HB⟩
         ·rw [if_neg c11] at H
          have c11b0 : decide ((rd l0 x5_1) ≤ (rd l0 (ji8))) = false := jd c11
          clear c11
          have H' := jA H
          clear H
          try go_wp2
          have n0_ := jA (below_drew1 HB.out)
          clear HB
          have HB := n0_
          clear n0_
          have p207 : 0 ≤ (x5_1 : Int) := jI za
          have q207 : x5_1 < (l0.length : Int) := jI za
          obtain ⟨ad207, e207, hx207_0⟩ := jc HR0.out x5_1 p207 q207
          have hw207_0 := hx207_0
          cases e207
          replace hx207_0 := (HB.out.cell (jH w _ hx207_0)).trans hx207_0
          replace p207 := eq_true p207
          replace q207 := eq_true q207
          have p209 : 0 ≤ ((ji8) : Int) := jI za
          have q209 : (ji8) < (l0.length : Int) := jI za
          obtain ⟨ad209, e209, hx209_0⟩ := jc HR0.out (ji8) p209 q209
          have hw209_0 := hx209_0
          obtain rfl : ad207 = ad209 := (by injection e209)
          replace hx209_0 := (HB.out.cell (jH w _ hx209_0)).trans hx209_0
          replace p209 := eq_true p209
          replace q209 := eq_true q209
          have p210 : 0 ≤ (x5_1 : Int) := jI za
          have q210 : x5_1 < (l0.length : Int) := jI za
          obtain ⟨ad210, e210, hx210_0⟩ := jc HR0.out x5_1 p210 q210
          have hw210_0 := hx210_0
          obtain rfl : ad207 = ad210 := (by injection e210)
          replace hx210_0 := (HB.out.cell (jH w _ hx210_0)).trans hx210_0
          replace p210 := eq_true p210
          replace q210 := eq_true q210
          refine start_ (n := 22) (S := fun w' => w'.cell? (ad207.add (x5_1).toNat) = some (.int .i64 (rd l0 x5_1)) ∧ w'.cell? (ad207.add ((ji8)).toNat) = some (.int .i64 (rd l0 (ji8))) ∧ w'.cell? (ad207.add (x5_1).toNat) = some (.int .i64 (rd l0 x5_1))) (ds := []) m22_0 zr rfl rfl ⟨((HB.out.cell (jH w _ hw207_0)).trans hw207_0), ((HB.out.cell (jH w _ hw209_0)).trans hw209_0), ((HB.out.cell (jH w _ hw210_0)).trans hw210_0)⟩ (fun hHeld => ?_); refine with_tabW spec_l25Safe.tab4 spec_l25Safe.bits4 (fun HT_ HW_ => ?_)
          generalize wr.drew = w14 at HB hx207_0 hx209_0 hx210_0 hHeld ⊢
          refine zp HT_ 0 12 m22_200000 ?_
          refine zp HT_ 1 13 m22_300000 ?_
          refine zp HT_ 2 14 m22_380000 ?_
          refine zt3 HT_ HW_ hHeld 3 15 m22_3c0000 ?_
          refine one_ (i := 4) (N := some 16) m22_3e0000 rfl rfl (one_of HT_.out zr) (by decide) (fun K hK => ?_)
          refine goes_ Try.func47 zr rfl #[.int .i64 (rd l0 x5_1)] (by rfl) rfl rfl zm ?_
          with_reducible refine (spec_l25Is.calls (rd l0 x5_1) true _ A5.out).mono ?_
          rintro e w15 ⟨rfl, hb⟩
          refine ⟨_, rfl, ?_⟩
          have n0_ := jA (jK (zb0 HB) hb)
          clear HB
          have HB := n0_
          clear n0_
          (try clear hb)
          (try clear hb2)
          (try clear hk)
          (try clear hi)
          refine hK.out _ _ ⟨((HB.out.cell (jH w _ hw207_0)).trans hw207_0), ((HB.out.cell (jH w _ hw209_0)).trans hw209_0), ((HB.out.cell (jH w _ hw210_0)).trans hw210_0)⟩ (fun hHeld => ?_)
          clear hK K
          refine norm_ (a' := ?_) ?_ ?_
          rotate_left
          ·show Act.put _ (some 16) _ = _
           simp only [Act.put, jT, ja, jb, i64_w, i32_w]
           rfl
          refine zp HT_ 5 17 m22_3f0000 ?_
          refine zp HT_ 6 18 m22_3f8000 ?_
          refine zp HT_ 7 19 m22_3fc000 ?_
          refine zp HT_ 8 20 m22_3fe000 ?_
          refine zp HT_ 9 21 m22_3ff000 ?_
          refine zp HT_ 10 22 m22_3ff800 ?_
          refine zp HT_ 11 23 m22_3ffc00 ?_
          refine zp HT_ 12 24 m22_3ffe00 ?_
          refine zp HT_ 13 25 m22_3fff00 ?_
          refine zp HT_ 15 27 m22_3fff40 ?_
          refine zp HT_ 16 28 m22_3fff60 ?_
          refine zp HT_ 17 29 m22_3fff70 ?_
          refine zt3 HT_ HW_ hHeld 14 26 m22_3ffff0 ?_
          refine zt3 HT_ HW_ hHeld 18 30 m22_3ffff8 ?_
          refine zp HT_ 19 31 m22_3ffffc ?_
          refine zp HT_ 20 32 m22_3ffffe ?_
          refine zp HT_ 21 33 m22_3fffff ?_
          refine done_ (done_of HT_.out zr) ?_
          try go_wp2
          go_roundg k1
          case measure => have := HK1.out; omega
          case rel => exact ⟨(wrap64 (x5_1 + 1)), zz, H', ⟨by have := HK1.out; omega⟩, ⟨zb0 HB⟩⟩
        ·rw [if_neg c10] at H
         exact absurd H (by simp)
       ·rw [if_neg c9] at H
        exact absurd H (by simp)
      ·rw [if_neg c7] at H
       have c7b0 : decide (0 < x5_1) = false := jd c7
       clear c7
       have H' := jA H
       clear H
       try go_wp2
       have n0_ := jA (below_drew1 HB.out)
       clear HB
       have HB := n0_
       clear n0_
       have p207 : 0 ≤ (x5_1 : Int) := jI za
       have q207 : x5_1 < (l0.length : Int) := jI za
       obtain ⟨ad207, e207, hx207_0⟩ := jc HR0.out x5_1 p207 q207
       have hw207_0 := hx207_0
       cases e207
       replace hx207_0 := (HB.out.cell (jH w _ hx207_0)).trans hx207_0
       replace p207 := eq_true p207
       replace q207 := eq_true q207
       refine start_ (n := 22) (S := fun w' => w'.cell? (ad207.add (x5_1).toNat) = some (.int .i64 (rd l0 x5_1))) (ds := []) m22_0 zr rfl rfl (((HB.out.cell (jH w _ hw207_0)).trans hw207_0)) (fun hHeld => ?_); refine with_tabW spec_l25Safe.tab4 spec_l25Safe.bits4 (fun HT_ HW_ => ?_)
       generalize wr.drew = w16 at HB hx207_0 hHeld ⊢
       refine zp HT_ 0 12 m22_200000 ?_
       refine zp HT_ 1 13 m22_300000 ?_
       refine zp HT_ 2 14 m22_380000 ?_
       refine take_ (i := 3) (N := some 15) (v := ?_) (a' := ?_) m22_3c0000 rfl rfl (take_ofW HT_.out HW_.out zr) (fun _ _ _ h => h) (Or.inl ⟨by rfl, ?_⟩) hHeld ?_ ?_
       rotate_left
       ·intro w' s0
        go_simp
        with_reducible rfl
       rotate_left
       ·simp only [Act.put, jT, ja, jb, i64_w, i32_w]
        rfl
       refine one_ (i := 4) (N := some 16) m22_3e0000 rfl rfl (one_of HT_.out zr) (by decide) (fun K hK => ?_)
       refine goes_ Try.func47 zr rfl #[.int .i64 (rd l0 x5_1)] (by rfl) rfl rfl zm ?_
       with_reducible refine (spec_l25Is.calls (rd l0 x5_1) true _ A5.out).mono ?_
       rintro e w17 ⟨rfl, hb⟩
       refine ⟨_, rfl, ?_⟩
       have n0_ := jA (jK (zb0 HB) hb)
       clear HB
       have HB := n0_
       clear n0_
       (try clear hb)
       (try clear hb2)
       (try clear hk)
       (try clear hi)
       refine hK.out _ _ (((HB.out.cell (jH w _ hw207_0)).trans hw207_0)) (fun hHeld => ?_)
       clear hK K
       refine norm_ (a' := ?_) ?_ ?_
       rotate_left
       ·show Act.put _ (some 16) _ = _
        simp only [Act.put, jT, ja, jb, i64_w, i32_w]
        rfl
       refine zp HT_ 5 17 m22_3f0000 ?_
       refine zp HT_ 6 18 m22_3f8000 ?_
       refine zp HT_ 7 19 m22_3fc000 ?_
       refine zp HT_ 8 20 m22_3fe000 ?_
       refine zp HT_ 9 21 m22_3ff000 ?_
       refine zq HT_ 10 22 m22_3ff800 ?_
       refine zq HT_ 11 23 m22_3ffc00 ?_
       refine zq HT_ 12 24 m22_3ffe00 ?_
       refine zq HT_ 13 25 m22_3fff00 ?_
       refine zq HT_ 14 26 m22_3fff80 ?_
       refine zq HT_ 15 27 m22_3fffc0 ?_
       refine zq HT_ 16 28 m22_3fffe0 ?_
       refine zq HT_ 17 29 m22_3ffff0 ?_
       refine zq HT_ 18 30 m22_3ffff8 ?_
       refine zq HT_ 19 31 m22_3ffffc ?_
       refine zp HT_ 20 32 m22_3ffffe ?_
       refine zp HT_ 21 33 m22_3fffff ?_
       refine done_ (done_of HT_.out zr) ?_
       try go_wp2
       go_roundg k1
       case measure => have := HK1.out; omega
       case rel => exact ⟨(wrap64 (x5_1 + 1)), zz, H', ⟨by have := HK1.out; omega⟩, ⟨zb0 HB⟩⟩
     ·replace c6 := Bool.eq_false_iff.mpr c6
      subst c6
      have H1 : (some 1) = some r := by rw [if_neg (show ¬ (false = true) by decide)] at H; exact H
      clear H
      have H := H1
      clear H1
      obtain rfl := jR H
      try go_wp2
      have n0_ := jA (below_drew1 HB.out)
      clear HB
      have HB := n0_
      clear n0_
      have p207 : 0 ≤ (x5_1 : Int) := jI za
      have q207 : x5_1 < (l0.length : Int) := jI za
      obtain ⟨ad207, e207, hx207_0⟩ := jc HR0.out x5_1 p207 q207
      have hw207_0 := hx207_0
      cases e207
      replace hx207_0 := (HB.out.cell (jH w _ hx207_0)).trans hx207_0
      replace p207 := eq_true p207
      replace q207 := eq_true q207
      refine start_ (n := 22) (S := fun w' => w'.cell? (ad207.add (x5_1).toNat) = some (.int .i64 (rd l0 x5_1))) (ds := []) m22_0 zr rfl rfl (((HB.out.cell (jH w _ hw207_0)).trans hw207_0)) (fun hHeld => ?_); refine with_tabW spec_l25Safe.tab4 spec_l25Safe.bits4 (fun HT_ HW_ => ?_)
      generalize wr.drew = w18 at HB hx207_0 hHeld ⊢
      refine zp HT_ 0 12 m22_200000 ?_
      refine zp HT_ 1 13 m22_300000 ?_
      refine zp HT_ 2 14 m22_380000 ?_
      refine take_ (i := 3) (N := some 15) (v := ?_) (a' := ?_) m22_3c0000 rfl rfl (take_ofW HT_.out HW_.out zr) (fun _ _ _ h => h) (Or.inl ⟨by rfl, ?_⟩) hHeld ?_ ?_
      rotate_left
      ·intro w' s0
       go_simp
       with_reducible rfl
      rotate_left
      ·simp only [Act.put, jT, ja, jb, i64_w, i32_w]
       rfl
      refine one_ (i := 4) (N := some 16) m22_3e0000 rfl rfl (one_of HT_.out zr) (by decide) (fun K hK => ?_)
      refine goes_ Try.func47 zr rfl #[.int .i64 (rd l0 x5_1)] (by rfl) rfl rfl zm ?_
      with_reducible refine (spec_l25Is.calls (rd l0 x5_1) false _ A5.out).mono ?_
      rintro e w19 ⟨rfl, hb⟩
      refine ⟨_, rfl, ?_⟩
      have n0_ := jA (jK (zb0 HB) hb)
      clear HB
      have HB := n0_
      clear n0_
      (try clear hb)
      (try clear hb2)
      (try clear hk)
      (try clear hi)
      refine hK.out _ _ (((HB.out.cell (jH w _ hw207_0)).trans hw207_0)) (fun hHeld => ?_)
      clear hK K
      refine norm_ (a' := ?_) ?_ ?_
      rotate_left
      ·show Act.put _ (some 16) _ = _
       simp only [Act.put, jT, ja, jb, i64_w, i32_w]
       rfl
      refine zp HT_ 5 17 m22_3f0000 ?_
      refine zp HT_ 6 18 m22_3f8000 ?_
      refine zq HT_ 7 19 m22_3fc000 ?_
      refine zq HT_ 8 20 m22_3fe000 ?_
      refine zq HT_ 9 21 m22_3ff000 ?_
      refine zq HT_ 10 22 m22_3ff800 ?_
      refine zq HT_ 11 23 m22_3ffc00 ?_
      refine zq HT_ 12 24 m22_3ffe00 ?_
      refine zq HT_ 13 25 m22_3fff00 ?_
      refine zq HT_ 14 26 m22_3fff80 ?_
      refine zq HT_ 15 27 m22_3fffc0 ?_
      refine zq HT_ 16 28 m22_3fffe0 ?_
      refine zq HT_ 17 29 m22_3ffff0 ?_
      refine zq HT_ 18 30 m22_3ffff8 ?_
      refine zq HT_ 19 31 m22_3ffffc ?_
      refine zq HT_ 20 32 m22_3ffffe ?_
      refine zp HT_ 21 33 m22_3fffff ?_
      refine done_ (done_of HT_.out zr) ?_
      try go_wp2
      go_ret
      exact ⟨by first | rfl | (simp [errW_none, errW_some] <;> rfl) | (simp [*, errW_none, errW_some] <;> rfl), zb0 HB⟩
    ·rw [if_neg c4] at H
     exact absurd H (by simp)
   ·rw [if_neg c3] at H
    have c3b0 : decide (x5_1 < (l0.length : Int)) = false := jd c3
    clear c3
    replace H := jN.mp H
    obtain ⟨t211, A200, H⟩ := H
    replace H : (some t211) = some r := H
    have A20 := jA A200
    clear A200
    obtain rfl := jR H
    go_wp2_with (first | ((with_reducible refine jY (f := 70) rfl ?_); refine goesL_ (some 36) rfl rfl Try.func70 zr rfl #[.agg #[.bool false, .bool false, .bool false, .bool false, .bool false, .int .i64 0], .slice A1 l1.length c1] rfl zm ?_; (with_reducible refine (spec_l25Code.calls k1 false false false false false 0 _ _ l1 t211 _ ?side1 ?side2 A20.out).mono ?_); (case side1 => exact zs HR1 HB); (case side2 => exact HC1.out); rintro e w21 ⟨rfl, hb⟩; refine ⟨_, rfl, ?_⟩; have n0_ := jA (jK (zb0 HB) hb); clear HB; have HB := n0_; clear n0_; (try clear hb); (try clear hb2); (try clear hk); (try clear hi)))
    go_ret
    exact ⟨by first | rfl | (simp [errW_none, errW_some] <;> rfl) | (simp [*, errW_none, errW_some] <;> rfl), zb0 HB⟩

/-! ### spec_l25Number: function 52 -/
def spec_l25Number.l0 : Nat → Int → List Bool → Int → Int → Option (Int)
 | 0, _, _, _, _ => none
 | k + 1, x3, x4, x5, x6 => if x6 < (x4.length : Int) then (if 0 ≤ x6 then (if rdOf false x4 x6 = true then (spec_l25Number.l0 k (wrap64 (x3 + x5)) x4 (wrap64 (2 * x5)) (wrap64 (x6 + 1))) else (spec_l25Number.l0 k x3 x4 (wrap64 (2 * x5)) (wrap64 (x6 + 1)))) else (none)) else (some x3)
def spec_l25Number.f (k : Nat) (a0_0 : Bool) (a0_1 : Bool) (a0_2 : Bool) (a0_3 : Bool) (a0_4 : Bool) (a0_5 : Int) : Option (Int) := spec_l25Number.l0 k (wrap64 (32 * a0_5)) (([a0_0, a0_1, a0_2, a0_3, a0_4] : List Bool)) 1 0
theorem spec_l25Number.mono_l : ∀ k, (∀ y0 y1 y2 y3, LeO (spec_l25Number.l0 k y0 y1 y2 y3) (spec_l25Number.l0 (k + 1) y0 y1 y2 y3))
 | 0 => fun _ _ _ _ r h => by simp [spec_l25Number.l0] at h
 | k + 1 => by
  have ih0 := spec_l25Number.mono_l k
  ·intro y0 y1 y2 y3
   unfold spec_l25Number.l0
   repeat' first
   | (with_reducible exact ih0 _ _ _ _)
   | (with_reducible exact LeO.refl _)
   | (with_reducible exact LeO.none _)
   | (with_reducible refine LeO.ite ?_ ?_)
   | (with_reducible refine LeO.bind ?_ (fun _ => ?_))
   | exact ih0 _ _ _ _
   | exact LeO.none _
   | refine LeO.ite ?_ ?_
   | refine LeO.bind ?_ (fun _ => ?_)
theorem spec_l25Number.mono : ∀ a0 a1 a2 a3 a4 a5 k, LeO (spec_l25Number.f k a0 a1 a2 a3 a4 a5) (spec_l25Number.f (k + 1) a0 a1 a2 a3 a4 a5) := by
 intro a0 a1 a2 a3 a4 a5 k
 have ih0 := spec_l25Number.mono_l k
 unfold spec_l25Number.f
 repeat' first
   | (with_reducible exact ih0 _ _ _ _)
   | (with_reducible exact LeO.refl _)
   | (with_reducible exact LeO.none _)
   | (with_reducible refine LeO.ite ?_ ?_)
   | (with_reducible refine LeO.bind ?_ (fun _ => ?_))
   | exact ih0 _ _ _ _
   | exact LeO.none _
   | refine LeO.ite ?_ ?_
   | refine LeO.bind ?_ (fun _ => ?_)
set_option maxHeartbeats 8000000 in
set_option maxRecDepth 100000 in
theorem spec_l25Number.calls (k : Nat) (a0_0 : Bool) (a0_1 : Bool) (a0_2 : Bool) (a0_3 : Bool) (a0_4 : Bool) (a0_5 : Int) (r : Int) (w : World) (h : spec_l25Number.f k a0_0 a0_1 a0_2 a0_3 a0_4 a0_5 = some r) :
  Calls Try.prog 52 #[.agg #[.bool a0_0, .bool a0_1, .bool a0_2, .bool a0_3, .bool a0_4, .int .i64 a0_5]] w fun e w' => e = .returned (.int .i64 r) ∧ Below w.heap.size w w' := by
 have hu23 := Try.underlying23
 have HB := jA (Below.refl w.heap.size w)
 have H : (spec_l25Number.l0 k (wrap64 (32 * a0_5)) (([a0_0, a0_1, a0_2, a0_3, a0_4] : List Bool)) 1 0) = some r := h
 clear h
 obtain ⟨y213, hy213⟩ : ∃ y_ : List Bool, y_ = (([a0_0, a0_1, a0_2, a0_3, a0_4] : List Bool)) := ⟨_, rfl⟩
 replace H : (spec_l25Number.l0 k (wrap64 (32 * a0_5)) y213 1 0) = some r := by first | (rw [hy213]; with_reducible exact H) | (have H2_ := (Option.bind_some _ _).symm.trans H; rw [hy213]; with_reducible exact H2_) | (have H2_ := (Option.bind_some _ _).symm.trans H; with_reducible exact H2_) | with_reducible exact H | (rw [hy213]; exact H) | exact H
 have Ny213 := jA hy213
 clear hy213
 have H' := jA H
 clear H
 go_enter Try.func52, Try.ntmps52
 go_wp2_with (first | ((with_reducible refine jO (N := 1) rfl ?_); refine jM ?hg (N := 1) ?hd (cs := #[.bool a0_0, .bool a0_1, .bool a0_2, .bool a0_3, .bool a0_4, .int .i64 a0_5]) (t := 23) ?hr ?_; (case hd => rfl); (case hg => rfl); (case hr => first | (go_simp; done) | (go_simp; rfl)); intro gb212 hg w2 hbox hb; have n0_ := jA (jK (zb0 HB) hb); have n1_ := jA (hbox); have n2_ := jA ((by rw [hg]; exact (jG (zb0 HB)) : w.heap.size ≤ gb212)); have n3_ := jA ((by rw [hg]; exact (jG (zb0 HB)) : w.heap.size ≤ gb212)); clear HB; have HB := n0_; have BK212 := n1_; have GW212 := n2_; have GE212 := n3_; clear n0_ n1_ n2_ n3_; clear hb hbox hg; have hcz3_0 : w2.cell? ⟨gb212, 0, none⟩ = some (.bool a0_0) := (jC BK212.out 0).trans rfl; have hcz3_1 : w2.cell? ⟨gb212, 1, none⟩ = some (.bool a0_1) := (jC BK212.out 1).trans rfl; have hcz3_2 : w2.cell? ⟨gb212, 2, none⟩ = some (.bool a0_2) := (jC BK212.out 2).trans rfl; have hcz3_3 : w2.cell? ⟨gb212, 3, none⟩ = some (.bool a0_3) := (jC BK212.out 3).trans rfl; have hcz3_4 : w2.cell? ⟨gb212, 4, none⟩ = some (.bool a0_4) := (jC BK212.out 4).trans rfl; have hcz3_5 : w2.cell? ⟨gb212, 5, none⟩ = some (.int .i64 a0_5) := (jC BK212.out 5).trans rfl; have hfz3_0 := jB BK212.out 0; have hfz3_1 := jB BK212.out 1; have hfz3_2 := jB BK212.out 2; have hfz3_3 := jB BK212.out 3; have hfz3_4 := jB BK212.out 4; have hfz3_5 := jB BK212.out 5) | ((with_reducible refine jO (N := 20) rfl ?_); refine Kd.R_lit Kd.bool _ 4 ?hg (N := 20) ?hd (xs := ([a0_0, a0_1, a0_2, a0_3, a0_4] : List Bool)) (inner := [.bool a0_0, .bool a0_1, .bool a0_2, .bool a0_3, .bool a0_4]) (ok := fun _ => True) (okp := fun _ => True) ?hr ?hp (fun _ hk => hk) trivial (Below.refl _ _) (Nat.le_refl _) (by simp) ?_; (case hd => rfl); (case hg => rfl); (case hr => first | (go_simp; done) | (go_simp; rfl)); (case hp => exact (Reps.one (show Kd.M Kd.bool _ _ _ a0_0 [.bool a0_0] from rfl) (Reps.one (show Kd.M Kd.bool _ _ _ a0_1 [.bool a0_1] from rfl) (Reps.one (show Kd.M Kd.bool _ _ _ a0_2 [.bool a0_2] from rfl) (Reps.one (show Kd.M Kd.bool _ _ _ a0_3 [.bool a0_3] from rfl) (Reps.one (show Kd.M Kd.bool _ _ _ a0_4 [.bool a0_4] from rfl) (Reps.none _ _))))))); intro v214 w4 ho5 hb hg_ hnew_; clear hg_ hnew_; (first | rw [← Ny213.out] at ho5 | (simp only [Int.reduceToNat] at ho5; rw [← Ny213.out] at ho5)); have n0_ := jA (Kd.R_lower ho5 (jG (zb1 HB GE212))); have n1_ := jA (jU (g := gb212) (o := .cells #[.bool a0_0, .bool a0_1, .bool a0_2, .bool a0_3, .bool a0_4, .int .i64 a0_5] 23 (0, 0)) (zk BK212) hb); have n2_ := jA (jK (zb1 HB GE212) hb); clear BK212; clear HB; have HO215 := n0_; have BK212 := n1_; have HB := n2_; clear n0_ n1_ n2_; clear hb ho5))
 go_loopg [3, 5, 6] k (fun kq v3 v5 v6 w' => ∃ (x3_1 : Int) (x5_1 : Int) (x6_1 : Int), v3 = .int .i64 x3_1 ∧ v5 = .int .i64 x5_1 ∧ v6 = .int .i64 x6_1 ∧ Aside0 (spec_l25Number.l0 kq x3_1 y213 x5_1 x6_1 = some r) ∧ Aside0 (kq ≤ k) ∧ Aside0 (Kd.R Kd.bool 4 w' w.heap.size (fun _ => True) v214 y213) ∧ Aside0 (w'.heap[gb212]? = some (.cells #[.bool a0_0, .bool a0_1, .bool a0_2, .bool a0_3, .bool a0_4, .int .i64 a0_5] 23 (0, 0))) ∧ Aside0 (Below w.heap.size w w'))
 case atStart => exact ⟨(wrap64 (32 * a0_5)), (1), (0), zz, zz, zz, H', ⟨Nat.le_refl _⟩, ⟨by (with_reducible repeat (first | apply Kd.R_alloc | apply Kd.R_drewN | apply Kd.R_drew)); exact HO215.out⟩, ⟨by (with_reducible repeat (first | refine jD ?_ _ | refine jF ?_ | refine jE ?_ _)); exact BK212.out⟩, ⟨zb1 HB GE212⟩⟩
 case round =>
  clear H'
  try clear p2
  try clear c5
  try clear hcz3_0
  try clear hcz3_1
  try clear hcz3_2
  try clear hcz3_3
  try clear hcz3_4
  try clear hcz3_5
  try clear hfz3_0
  try clear hfz3_1
  try clear hfz3_2
  try clear hfz3_3
  try clear hfz3_4
  try clear hfz3_5
  obtain ⟨x3_1, x5_1, x6_1, rfl, rfl, rfl, HA, HK1, HO_4, BK212, HB⟩ := hrel
  cases gk with
  | zero => exact absurd HA.out (by simp [spec_l25Number.l0])
  | succ k1 =>
   have H := HA.out
   clear HA
   simp only [spec_l25Number.l0] at H
   by_cases c6 : x6_1 < (y213.length : Int)
   ·rw [if_pos c6] at H
    have c6b0 : decide (x6_1 < (y213.length : Int)) = true := jP c6
    clear c6
    by_cases c7 : 0 ≤ x6_1
    ·rw [if_pos c7] at H
     have c7b0 : decide (0 ≤ x6_1) = true := jP c7
     clear c7
     obtain ⟨bq8, hbq8⟩ : ∃ b_ : Bool, b_ = (rdOf false y213 x6_1) := ⟨_, rfl⟩
     replace H : (if bq8 = true then (spec_l25Number.l0 k1 (wrap64 (x3_1 + x5_1)) y213 (wrap64 (2 * x5_1)) (wrap64 (x6_1 + 1))) else (spec_l25Number.l0 k1 x3_1 y213 (wrap64 (2 * x5_1)) (wrap64 (x6_1 + 1)))) = some r := by rw [← hbq8] at H; exact H
     have Nbq8 := jA hbq8
     clear hbq8
     by_cases c9 : bq8 = true
     ·subst c9
      have H1 : (spec_l25Number.l0 k1 (wrap64 (x3_1 + x5_1)) y213 (wrap64 (2 * x5_1)) (wrap64 (x6_1 + 1))) = some r := by rw [if_pos rfl] at H; exact H
      clear H
      have H := H1
      clear H1
      have H' := jA H
      clear H
      obtain ⟨Ao10, co10, eo10⟩ := Kd.R_slice HO_4.out
      subst eo10
      have p216 : 0 ≤ (x6_1 : Int) := jI za
      have q216 : x6_1 < (y213.length : Int) := jI za
      obtain ⟨ad216, e216, hx216_0⟩ := Kd.at_bool (Kd.R_reads' HO_4.out).2.2 x6_1 p216 q216
      (try rw [← Nbq8.out] at hx216_0)
      cases e216
      replace p216 := eq_true p216
      replace q216 := eq_true q216
      go_wp2
      go_roundg k1
      case measure => have := HK1.out; omega
      case rel => exact ⟨(wrap64 (x3_1 + x5_1)), (wrap64 (2 * x5_1)), (wrap64 (x6_1 + 1)), zz, zz, zz, H', ⟨by have := HK1.out; omega⟩, ⟨by (with_reducible repeat (first | apply Kd.R_alloc | apply Kd.R_drewN | apply Kd.R_drew)); exact HO_4.out⟩, ⟨by (with_reducible repeat (first | refine jD ?_ _ | refine jF ?_ | refine jE ?_ _)); exact BK212.out⟩, ⟨zb1 HB GE212⟩⟩
     ·replace c9 := Bool.eq_false_iff.mpr c9
      subst c9
      have H1 : (spec_l25Number.l0 k1 x3_1 y213 (wrap64 (2 * x5_1)) (wrap64 (x6_1 + 1))) = some r := by rw [if_neg (show ¬ (false = true) by decide)] at H; exact H
      clear H
      have H := H1
      clear H1
      have H' := jA H
      clear H
      obtain ⟨Ao11, co11, eo11⟩ := Kd.R_slice HO_4.out
      subst eo11
      have p216 : 0 ≤ (x6_1 : Int) := jI za
      have q216 : x6_1 < (y213.length : Int) := jI za
      obtain ⟨ad216, e216, hx216_0⟩ := Kd.at_bool (Kd.R_reads' HO_4.out).2.2 x6_1 p216 q216
      (try rw [← Nbq8.out] at hx216_0)
      cases e216
      replace p216 := eq_true p216
      replace q216 := eq_true q216
      go_wp2
      go_roundg k1
      case measure => have := HK1.out; omega
      case rel => exact ⟨(x3_1), (wrap64 (2 * x5_1)), (wrap64 (x6_1 + 1)), zz, zz, zz, H', ⟨by have := HK1.out; omega⟩, ⟨by (with_reducible repeat (first | apply Kd.R_alloc | apply Kd.R_drewN | apply Kd.R_drew)); exact HO_4.out⟩, ⟨by (with_reducible repeat (first | refine jD ?_ _ | refine jF ?_ | refine jE ?_ _)); exact BK212.out⟩, ⟨zb1 HB GE212⟩⟩
    ·rw [if_neg c7] at H
     exact absurd H (by simp)
   ·rw [if_neg c6] at H
    have c6b0 : decide (x6_1 < (y213.length : Int)) = false := jd c6
    clear c6
    obtain rfl := jR H
    obtain ⟨Ao12, co12, eo12⟩ := Kd.R_slice HO_4.out
    subst eo12
    go_wp2
    go_ret
    exact ⟨by first | rfl | (simp [errW_none, errW_some] <;> rfl) | (simp [*, errW_none, errW_some] <;> rfl), zb1 HB GE212⟩

end Go.Proofs.Ythieppjmjgijfaa.PFnExactAreClosed
