/- Functions and contracts that FnProofs reaches (17 of 22). -/
import Derived.Test.YthieppjmjgijfaaQFnProofsx15
namespace Go.Proofs.Ythieppjmjgijfaa.PFnProofs
open Go.RowKit Go.Proofs.YthieppjmjgijfaaW.PrintWords Go.Proofs.YthieppjmjgijfaaW.PrintLast Go.Proofs.YthieppjmjgijfaaW.PrintMore
attribute [local go_sem] max2_int min2_int max_two min_two max_three min_three max_four min_four   -- for this text's walks alone
set_option linter.unusedVariables false
set_option linter.unusedSimpArgs false

/-! ### spec_l25Safe: function 58 -/
def spec_l25Safe.l0 : Nat → List Int → List Int → Int → Option (Int)
 | 0, _, _, _ => none
 | k + 1, x0, x1, x5 => if x5 < (x0.length : Int) then (if 0 ≤ x5 then ((spec_l25Is.f (rd x0 x5)).bind fun t551 => (if t551 = true then (if x5 > 0 then (if 0 ≤ (wrap64 (x5 - 1)) then (if (wrap64 (x5 - 1)) < (x0.length : Int) then (if (rd x0 (wrap64 (x5 - 1))) ≥ (rd x0 x5) then (some 1) else (spec_l25Safe.l0 k x0 x1 (wrap64 (x5 + 1)))) else (none)) else (none)) else (spec_l25Safe.l0 k x0 x1 (wrap64 (x5 + 1)))) else (some 1))) else (none)) else ((spec_l25Code.f k false false false false false 0 x1).bind fun t554 => (some t554))
def spec_l25Safe.f (k : Nat) (l0 : List Int) (l1 : List Int) : Option (Int) := spec_l25Safe.l0 k l0 l1 0
theorem spec_l25Safe.mono_l : ∀ k, (∀ y0 y1 y2, LeO (spec_l25Safe.l0 k y0 y1 y2) (spec_l25Safe.l0 (k + 1) y0 y1 y2))
 | 0 => fun _ _ _ r h => by simp [spec_l25Safe.l0] at h
 | k + 1 => by
  have ih0 := spec_l25Safe.mono_l k
  ·intro y0 y1 y2
   unfold spec_l25Safe.l0
   repeat' first
   | (with_reducible exact ih0 _ _ _)
   | (with_reducible exact spec_l25Code.mono _ _ _ _ _ _ _ _)
   | (with_reducible exact LeO.refl _)
   | (with_reducible exact LeO.none _)
   | (with_reducible refine LeO.ite ?_ ?_)
   | (with_reducible refine LeO.bind ?_ (fun _ => ?_))
   | exact ih0 _ _ _
   | exact spec_l25Code.mono _ _ _ _ _ _ _ _
   | exact LeO.none _
   | refine LeO.ite ?_ ?_
   | refine LeO.bind ?_ (fun _ => ?_)
theorem spec_l25Safe.mono : ∀ a0 a1 k, LeO (spec_l25Safe.f k a0 a1) (spec_l25Safe.f (k + 1) a0 a1) := by
 intro a0 a1 k
 have ih0 := spec_l25Safe.mono_l k
 unfold spec_l25Safe.f
 repeat' first
   | (with_reducible exact ih0 _ _ _)
   | (with_reducible exact spec_l25Code.mono _ _ _ _ _ _ _ _)
   | (with_reducible exact LeO.refl _)
   | (with_reducible exact LeO.none _)
   | (with_reducible refine LeO.ite ?_ ?_)
   | (with_reducible refine LeO.bind ?_ (fun _ => ?_))
   | exact ih0 _ _ _
   | exact spec_l25Code.mono _ _ _ _ _ _ _ _
   | exact LeO.none _
   | refine LeO.ite ?_ ?_
   | refine LeO.bind ?_ (fun _ => ?_)
def spec_l25Safe.T4 : Bool × List (List Nat × List Nat) := (true, [([], []), ([], []), ([0, 1], [0, 1]), ([2], [2]), ([3], [3]), ([4], [4]), ([5, 4], [5]), ([6], [6]), ([7, 6], [6, 7]), ([8, 6, 6], [6, 8]), ([9], [9]), ([9], [9]), ([11, 9], [9, 11]), ([10, 12, 9], [9, 10, 12]), ([13, 9], [9, 13]), ([9], [9]), ([9], [9]), ([15, 16, 9], [9, 15, 16]), ([17, 9], [9, 17]), ([14, 18, 9], [9, 14, 18]), ([9, 19, 6], [6, 9, 19]), ([6, 20], [6, 20])])
def spec_l25Safe.B4 : List Nat := [0, 0, 3, 7, 15, 31, 63, 127, 255, 511, 1023, 1023, 3071, 8191, 16383, 1023, 1023, 99327, 230399, 524287, 1048575, 2097151]
theorem spec_l25Safe.tab4 : rtab .any (opsOf Try.f58 4) = spec_l25Safe.T4 := by kernel_rfl
theorem spec_l25Safe.bits4 : waitsOk spec_l25Safe.T4.2 spec_l25Safe.B4 = true := by kernel_rfl
set_option maxHeartbeats 8000000 in
set_option maxRecDepth 100000 in
theorem spec_l25Safe.calls (k : Nat) (A0 : Option Addr) (c0 : Nat) (l0 : List Int) (A1 : Option Addr) (c1 : Nat) (l1 : List Int) (r : Int) (w : World) (hr0 : Kd.C (Kd.int .i64) w A0 l0.length l0) (hc0 : l0.length ≤ c0) (hr1 : Kd.C (Kd.int .i64) w A1 l1.length l1) (hc1 : l1.length ≤ c1) (h : spec_l25Safe.f k l0 l1 = some r) :
  Calls Try.prog 58 #[.slice A0 l0.length c0, .slice A1 l1.length c1] w fun e w' => e = .returned (.int .i64 r) ∧ Below w.heap.size w w' := by
 have hu23 := Try.underlying23
 have HR0 := jA hr0
 have HC0 := jA hc0
 clear hr0 hc0
 have HR1 := jA hr1
 have HC1 := jA hc1
 clear hr1 hc1
 have HB := jA (Below.refl w.heap.size w)
 have H : (spec_l25Safe.l0 k l0 l1 0) = some r := h
 clear h
 have H' := jA H
 clear H
 go_enter Try.func58, Try.ntmps58
 go_wp2
 go_loopg [5] k (fun kq v5 w' => ∃ (x5_1 : Int), v5 = .int .i64 x5_1 ∧ Aside0 (spec_l25Safe.l0 kq l0 l1 x5_1 = some r) ∧ Aside0 (kq ≤ k) ∧ Aside0 (Below w.heap.size w w'))
 case atStart => exact ⟨(0), zz, H', ⟨Nat.le_refl _⟩, ⟨zb0 HB⟩⟩
 case round =>
  clear H'
  try clear c1
  try clear p2
  obtain ⟨x5_1, rfl, HA, HK1, HB⟩ := hrel
  cases gk with
  | zero => exact absurd HA.out (by simp [spec_l25Safe.l0])
  | succ k1 =>
   have H := HA.out
   clear HA
   simp only [spec_l25Safe.l0] at H
   by_cases c3 : x5_1 < (l0.length : Int)
   ·rw [if_pos c3] at H
    have c3b0 : decide (x5_1 < (l0.length : Int)) = true := jI c3
    clear c3
    by_cases c4 : 0 ≤ x5_1
    ·rw [if_pos c4] at H
     have c4b0 : decide (0 ≤ x5_1) = true := jI c4
     clear c4
     replace H := jC.mp H
     obtain ⟨t551, A50, H⟩ := H
     replace H : (if t551 = true then (if x5_1 > 0 then (if 0 ≤ (wrap64 (x5_1 - 1)) then (if (wrap64 (x5_1 - 1)) < (l0.length : Int) then (if (rd l0 (wrap64 (x5_1 - 1))) ≥ (rd l0 x5_1) then (some 1) else (spec_l25Safe.l0 k1 l0 l1 (wrap64 (x5_1 + 1)))) else (none)) else (none)) else (spec_l25Safe.l0 k1 l0 l1 (wrap64 (x5_1 + 1)))) else (some 1)) = some r := H
     have A5 := jA A50
     clear A50
     by_cases c6 : t551 = true
     ·subst c6
      rw [if_pos rfl] at H
      by_cases c7 : x5_1 > 0
      ·rw [if_pos c7] at H
       have c7b0 : decide (0 < x5_1) = true := jI c7
       clear c7
       obtain ⟨ji8, hji8⟩ : ∃ j_ : Int, (wrap64 (x5_1 - 1)) = j_ := ⟨_, rfl⟩
       replace H : (if 0 ≤ (ji8) then (if (ji8) < (l0.length : Int) then (if (rd l0 (ji8)) ≥ (rd l0 x5_1) then (some 1) else (spec_l25Safe.l0 k1 l0 l1 (wrap64 (x5_1 + 1)))) else (none)) else (none)) = some r := by first | (rw [hji8] at H; exact H) | (simp only [hji8] at H ⊢; exact H)
       (try rw [hji8] at A5)
       have hji8w : (IntKind.i64.wrap (x5_1 - 1)) = ji8 := (i64_w _).trans hji8
       by_cases c9 : 0 ≤ (ji8)
       ·rw [if_pos c9] at H
        have c9b0 : decide (0 ≤ (ji8)) = true := jI c9
        clear c9
        by_cases c10 : (ji8) < (l0.length : Int)
        ·rw [if_pos c10] at H
         have c10b0 : decide ((ji8) < (l0.length : Int)) = true := jI c10
         clear c10
         by_cases c11 : (rd l0 (ji8)) ≥ (rd l0 x5_1)
         ·rw [if_pos c11] at H
          have c11b0 : decide ((rd l0 x5_1) ≤ (rd l0 (ji8))) = true := jI c11
          clear c11
          obtain rfl := jN H
          try go_wp2
          replace HB := jA (below_drew1 HB.out)
          have p550 : 0 ≤ (x5_1 : Int) := jB za
          have q550 : x5_1 < (l0.length : Int) := jB za
          obtain ⟨ad550, e550, hx550_0⟩ := jR HR0.out x5_1 p550 q550
          have hw550_0 := hx550_0
          cases e550
          replace hx550_0 := zx HB hx550_0
          replace p550 := eq_true p550
          replace q550 := eq_true q550
          have p552 : 0 ≤ ((ji8) : Int) := jB za
          have q552 : (ji8) < (l0.length : Int) := jB za
          obtain ⟨ad552, e552, hx552_0⟩ := jR HR0.out (ji8) p552 q552
          have hw552_0 := hx552_0
          obtain rfl : ad550 = ad552 := (by injection e552)
          replace hx552_0 := zx HB hx552_0
          replace p552 := eq_true p552
          replace q552 := eq_true q552
          have p553 : 0 ≤ (x5_1 : Int) := jB za
          have q553 : x5_1 < (l0.length : Int) := jB za
          obtain ⟨ad553, e553, hx553_0⟩ := jR HR0.out x5_1 p553 q553
          have hw553_0 := hx553_0
          obtain rfl : ad550 = ad553 := (by injection e553)
          replace hx553_0 := zx HB hx553_0
          replace p553 := eq_true p553
          replace q553 := eq_true q553
          refine start_ (n := 22) (S := fun w' => w'.cell? (ad550.add (x5_1).toNat) = some (.int .i64 (rd l0 x5_1)) ∧ w'.cell? (ad550.add ((ji8)).toNat) = some (.int .i64 (rd l0 (ji8))) ∧ w'.cell? (ad550.add (x5_1).toNat) = some (.int .i64 (rd l0 x5_1))) (ds := []) m22_0 zr rfl rfl ⟨(zx HB hw550_0), (zx HB hw552_0), (zx HB hw553_0)⟩ (fun hHeld => ?_); refine with_tabW spec_l25Safe.tab4 spec_l25Safe.bits4 (fun HT_ HW_ => ?_)
          generalize wr.drew = w12 at HB hx550_0 hx552_0 hx553_0 hHeld ⊢
          refine zp HT_ 0 12 m22_200000 ?_
          refine zp HT_ 1 13 m22_300000 ?_
          refine zp HT_ 2 14 m22_380000 ?_
          refine zt3 HT_ HW_ hHeld 3 15 m22_3c0000 ?_
          refine one_ (i := 4) (N := some 16) m22_3e0000 rfl rfl (one_of HT_.out zr) (by decide) (fun K hK => ?_)
          refine goes_ Try.func47 zr rfl #[.int .i64 (rd l0 x5_1)] (by rfl) rfl rfl zm ?_
          with_reducible refine (spec_l25Is.calls (rd l0 x5_1) true _ A5.out).mono ?_
          rintro e w13 ⟨rfl, hb⟩
          refine ⟨_, rfl, ?_⟩
          replace HB := zS0 HB hb
          (try clear hb)
          (try clear hb2)
          (try clear hk)
          (try clear hi)
          refine hK.out _ _ ⟨(zx HB hw550_0), (zx HB hw552_0), (zx HB hw553_0)⟩ (fun hHeld => ?_)
          clear hK K
          refine norm_ (a' := ?_) ?_ ?_
          rotate_left
          ·show Act.put _ (some 16) _ = _
           simp only [Act.put, jD, jE, jF, i64_w, i32_w]
           rfl
          refine zp HT_ 5 17 m22_3f0000 ?_
          refine zp HT_ 6 18 m22_3f8000 ?_
          refine zp HT_ 7 19 m22_3fc000 ?_
          refine zp HT_ 8 20 m22_3fe000 ?_
          refine zp HT_ 9 21 m22_3ff000 ?_
          refine zp HT_ 10 22 m22_3ff800 ?_
          refine zp HT_ 11 23 m22_3ffc00 ?_
          refine zp HT_ 12 24 m22_3ffe00 ?_
          refine zp HT_ 13 25 m22_3fff00 ?_
          refine zp HT_ 15 27 m22_3fff40 ?_
          refine zp HT_ 16 28 m22_3fff60 ?_
          refine zp HT_ 17 29 m22_3fff70 ?_
          refine zt3 HT_ HW_ hHeld 14 26 m22_3ffff0 ?_
          refine zt3 HT_ HW_ hHeld 18 30 m22_3ffff8 ?_
          refine zp HT_ 19 31 m22_3ffffc ?_
          refine zp HT_ 20 32 m22_3ffffe ?_
          refine zp HT_ 21 33 m22_3fffff ?_
          refine done_ (done_of HT_.out zr) ?_
          try go_wp2
          go_ret
          exact ⟨by first | rfl | (simp [errW_none, errW_some] <;> rfl) | (simp only [← hji8]; first | rfl | (simp [errW_none, errW_some] <;> rfl)) | (simp [*, errW_none, errW_some] <;> rfl), zb0 HB⟩
         ·rw [if_neg c11] at H
          have c11b0 : decide ((rd l0 x5_1) ≤ (rd l0 (ji8))) = false := jS c11
          clear c11
          have H' := jA H
          clear H
          try go_wp2
          replace HB := jA (below_drew1 HB.out)
          have p550 : 0 ≤ (x5_1 : Int) := jB za
          have q550 : x5_1 < (l0.length : Int) := jB za
          obtain ⟨ad550, e550, hx550_0⟩ := jR HR0.out x5_1 p550 q550
          have hw550_0 := hx550_0
          cases e550
          replace hx550_0 := zx HB hx550_0
          replace p550 := eq_true p550
          replace q550 := eq_true q550
          have p552 : 0 ≤ ((ji8) : Int) := jB za
          have q552 : (ji8) < (l0.length : Int) := jB za
          obtain ⟨ad552, e552, hx552_0⟩ := jR HR0.out (ji8) p552 q552
          have hw552_0 := hx552_0
          obtain rfl : ad550 = ad552 := (by injection e552)
          replace hx552_0 := zx HB hx552_0
          replace p552 := eq_true p552
          replace q552 := eq_true q552
          have p553 : 0 ≤ (x5_1 : Int) := jB za
          have q553 : x5_1 < (l0.length : Int) := jB za
          obtain ⟨ad553, e553, hx553_0⟩ := jR HR0.out x5_1 p553 q553
          have hw553_0 := hx553_0
          obtain rfl : ad550 = ad553 := (by injection e553)
          replace hx553_0 := zx HB hx553_0
          replace p553 := eq_true p553
          replace q553 := eq_true q553
          refine start_ (n := 22) (S := fun w' => w'.cell? (ad550.add (x5_1).toNat) = some (.int .i64 (rd l0 x5_1)) ∧ w'.cell? (ad550.add ((ji8)).toNat) = some (.int .i64 (rd l0 (ji8))) ∧ w'.cell? (ad550.add (x5_1).toNat) = some (.int .i64 (rd l0 x5_1))) (ds := []) m22_0 zr rfl rfl ⟨(zx HB hw550_0), (zx HB hw552_0), (zx HB hw553_0)⟩ (fun hHeld => ?_); refine with_tabW spec_l25Safe.tab4 spec_l25Safe.bits4 (fun HT_ HW_ => ?_)
          generalize wr.drew = w14 at HB hx550_0 hx552_0 hx553_0 hHeld ⊢
          refine zp HT_ 0 12 m22_200000 ?_
          refine zp HT_ 1 13 m22_300000 ?_
          refine zp HT_ 2 14 m22_380000 ?_
          refine zt3 HT_ HW_ hHeld 3 15 m22_3c0000 ?_
          refine one_ (i := 4) (N := some 16) m22_3e0000 rfl rfl (one_of HT_.out zr) (by decide) (fun K hK => ?_)
          refine goes_ Try.func47 zr rfl #[.int .i64 (rd l0 x5_1)] (by rfl) rfl rfl zm ?_
          with_reducible refine (spec_l25Is.calls (rd l0 x5_1) true _ A5.out).mono ?_
          rintro e w15 ⟨rfl, hb⟩
          refine ⟨_, rfl, ?_⟩
          replace HB := zS0 HB hb
          (try clear hb)
          (try clear hb2)
          (try clear hk)
          (try clear hi)
          refine hK.out _ _ ⟨(zx HB hw550_0), (zx HB hw552_0), (zx HB hw553_0)⟩ (fun hHeld => ?_)
          clear hK K
          refine norm_ (a' := ?_) ?_ ?_
          rotate_left
          ·show Act.put _ (some 16) _ = _
           simp only [Act.put, jD, jE, jF, i64_w, i32_w]
           rfl
          refine zp HT_ 5 17 m22_3f0000 ?_
          refine zp HT_ 6 18 m22_3f8000 ?_
          refine zp HT_ 7 19 m22_3fc000 ?_
          refine zp HT_ 8 20 m22_3fe000 ?_
          refine zp HT_ 9 21 m22_3ff000 ?_
          refine zp HT_ 10 22 m22_3ff800 ?_
          refine zp HT_ 11 23 m22_3ffc00 ?_
          refine zp HT_ 12 24 m22_3ffe00 ?_
          refine zp HT_ 13 25 m22_3fff00 ?_
          refine zp HT_ 15 27 m22_3fff40 ?_
          refine zp HT_ 16 28 m22_3fff60 ?_
          refine zp HT_ 17 29 m22_3fff70 ?_
          refine zt3 HT_ HW_ hHeld 14 26 m22_3ffff0 ?_
          refine zt3 HT_ HW_ hHeld 18 30 m22_3ffff8 ?_
          refine zp HT_ 19 31 m22_3ffffc ?_
          refine zp HT_ 20 32 m22_3ffffe ?_
          refine zp HT_ 21 33 m22_3fffff ?_
          refine done_ (done_of HT_.out zr) ?_
          try go_wp2
          go_roundg k1
          case measure => have := HK1.out; omega
          case rel => exact ⟨(wrap64 (x5_1 + 1)), zz, H', ⟨by have := HK1.out; omega⟩, ⟨zb0 HB⟩⟩
        ·rw [if_neg c10] at H
         exact absurd H (by simp)
       ·rw [if_neg c9] at H
        exact absurd H (by simp)
      ·rw [if_neg c7] at H
       have c7b0 : decide (0 < x5_1) = false := jS c7
       clear c7
       have H' := jA H
       clear H
       try go_wp2
       replace HB := jA (below_drew1 HB.out)
       have p550 : 0 ≤ (x5_1 : Int) := jB za
       have q550 : x5_1 < (l0.length : Int) := jB za
       obtain ⟨ad550, e550, hx550_0⟩ := jR HR0.out x5_1 p550 q550
       have hw550_0 := hx550_0
       cases e550
       replace hx550_0 := zx HB hx550_0
       replace p550 := eq_true p550
       replace q550 := eq_true q550
       refine start_ (n := 22) (S := fun w' => w'.cell? (ad550.add (x5_1).toNat) = some (.int .i64 (rd l0 x5_1))) (ds := []) m22_0 zr rfl rfl ((zx HB hw550_0)) (fun hHeld => ?_); refine with_tabW spec_l25Safe.tab4 spec_l25Safe.bits4 (fun HT_ HW_ => ?_)
       generalize wr.drew = w16 at HB hx550_0 hHeld ⊢
       refine zp HT_ 0 12 m22_200000 ?_
       refine zp HT_ 1 13 m22_300000 ?_
       refine zp HT_ 2 14 m22_380000 ?_
       refine take_ (i := 3) (N := some 15) (v := ?_) (a' := ?_) m22_3c0000 rfl rfl (take_ofW HT_.out HW_.out zr) (fun _ _ _ h => h) (Or.inl ⟨by rfl, ?_⟩) hHeld ?_ ?_
       rotate_left
       ·intro w' s0
        go_simp
        with_reducible rfl
       rotate_left
       ·simp only [Act.put, jD, jE, jF, i64_w, i32_w]
        rfl
       refine one_ (i := 4) (N := some 16) m22_3e0000 rfl rfl (one_of HT_.out zr) (by decide) (fun K hK => ?_)
       refine goes_ Try.func47 zr rfl #[.int .i64 (rd l0 x5_1)] (by rfl) rfl rfl zm ?_
       with_reducible refine (spec_l25Is.calls (rd l0 x5_1) true _ A5.out).mono ?_
       rintro e w17 ⟨rfl, hb⟩
       refine ⟨_, rfl, ?_⟩
       replace HB := zS0 HB hb
       (try clear hb)
       (try clear hb2)
       (try clear hk)
       (try clear hi)
       refine hK.out _ _ ((zx HB hw550_0)) (fun hHeld => ?_)
       clear hK K
       refine norm_ (a' := ?_) ?_ ?_
       rotate_left
       ·show Act.put _ (some 16) _ = _
        simp only [Act.put, jD, jE, jF, i64_w, i32_w]
        rfl
       refine zp HT_ 5 17 m22_3f0000 ?_
       refine zp HT_ 6 18 m22_3f8000 ?_
       refine zp HT_ 7 19 m22_3fc000 ?_
       refine zp HT_ 8 20 m22_3fe000 ?_
       refine zp HT_ 9 21 m22_3ff000 ?_
       refine zq HT_ 10 22 m22_3ff800 ?_
       refine zq HT_ 11 23 m22_3ffc00 ?_
       refine zq HT_ 12 24 m22_3ffe00 ?_
       refine zq HT_ 13 25 m22_3fff00 ?_
       refine zq HT_ 14 26 m22_3fff80 ?_
       refine zq HT_ 15 27 m22_3fffc0 ?_
       refine zq HT_ 16 28 m22_3fffe0 ?_
       refine zq HT_ 17 29 m22_3ffff0 ?_
       refine zq HT_ 18 30 m22_3ffff8 ?_
       refine zq HT_ 19 31 m22_3ffffc ?_
       refine zp HT_ 20 32 m22_3ffffe ?_
       refine zp HT_ 21 33 m22_3fffff ?_
       refine done_ (done_of HT_.out zr) ?_
       try go_wp2
       go_roundg k1
       case measure => have := HK1.out; omega
       case rel => exact ⟨(wrap64 (x5_1 + 1)), zz, H', ⟨by have := HK1.out; omega⟩, ⟨zb0 HB⟩⟩
     ·replace c6 := Bool.eq_false_iff.mpr c6
      subst c6
      rw [if_neg zfalse] at H
      obtain rfl := jN H
      try go_wp2
      replace HB := jA (below_drew1 HB.out)
      have p550 : 0 ≤ (x5_1 : Int) := jB za
      have q550 : x5_1 < (l0.length : Int) := jB za
      obtain ⟨ad550, e550, hx550_0⟩ := jR HR0.out x5_1 p550 q550
      have hw550_0 := hx550_0
      cases e550
      replace hx550_0 := zx HB hx550_0
      replace p550 := eq_true p550
      replace q550 := eq_true q550
      refine start_ (n := 22) (S := fun w' => w'.cell? (ad550.add (x5_1).toNat) = some (.int .i64 (rd l0 x5_1))) (ds := []) m22_0 zr rfl rfl ((zx HB hw550_0)) (fun hHeld => ?_); refine with_tabW spec_l25Safe.tab4 spec_l25Safe.bits4 (fun HT_ HW_ => ?_)
      generalize wr.drew = w18 at HB hx550_0 hHeld ⊢
      refine zp HT_ 0 12 m22_200000 ?_
      refine zp HT_ 1 13 m22_300000 ?_
      refine zp HT_ 2 14 m22_380000 ?_
      refine take_ (i := 3) (N := some 15) (v := ?_) (a' := ?_) m22_3c0000 rfl rfl (take_ofW HT_.out HW_.out zr) (fun _ _ _ h => h) (Or.inl ⟨by rfl, ?_⟩) hHeld ?_ ?_
      rotate_left
      ·intro w' s0
       go_simp
       with_reducible rfl
      rotate_left
      ·simp only [Act.put, jD, jE, jF, i64_w, i32_w]
       rfl
      refine one_ (i := 4) (N := some 16) m22_3e0000 rfl rfl (one_of HT_.out zr) (by decide) (fun K hK => ?_)
      refine goes_ Try.func47 zr rfl #[.int .i64 (rd l0 x5_1)] (by rfl) rfl rfl zm ?_
      with_reducible refine (spec_l25Is.calls (rd l0 x5_1) false _ A5.out).mono ?_
      rintro e w19 ⟨rfl, hb⟩
      refine ⟨_, rfl, ?_⟩
      replace HB := zS0 HB hb
      (try clear hb)
      (try clear hb2)
      (try clear hk)
      (try clear hi)
      refine hK.out _ _ ((zx HB hw550_0)) (fun hHeld => ?_)
      clear hK K
      refine norm_ (a' := ?_) ?_ ?_
      rotate_left
      ·show Act.put _ (some 16) _ = _
       simp only [Act.put, jD, jE, jF, i64_w, i32_w]
       rfl
      refine zp HT_ 5 17 m22_3f0000 ?_
      refine zp HT_ 6 18 m22_3f8000 ?_
      refine zq HT_ 7 19 m22_3fc000 ?_
      refine zq HT_ 8 20 m22_3fe000 ?_
      refine zq HT_ 9 21 m22_3ff000 ?_
      refine zq HT_ 10 22 m22_3ff800 ?_
      refine zq HT_ 11 23 m22_3ffc00 ?_
      refine zq HT_ 12 24 m22_3ffe00 ?_
      refine zq HT_ 13 25 m22_3fff00 ?_
      refine zq HT_ 14 26 m22_3fff80 ?_
      refine zq HT_ 15 27 m22_3fffc0 ?_
      refine zq HT_ 16 28 m22_3fffe0 ?_
      refine zq HT_ 17 29 m22_3ffff0 ?_
      refine zq HT_ 18 30 m22_3ffff8 ?_
      refine zq HT_ 19 31 m22_3ffffc ?_
      refine zq HT_ 20 32 m22_3ffffe ?_
      refine zp HT_ 21 33 m22_3fffff ?_
      refine done_ (done_of HT_.out zr) ?_
      try go_wp2
      go_ret
      exact ⟨ze, zb0 HB⟩
    ·rw [if_neg c4] at H
     exact absurd H (by simp)
   ·rw [if_neg c3] at H
    have c3b0 : decide (x5_1 < (l0.length : Int)) = false := jS c3
    clear c3
    replace H := jC.mp H
    obtain ⟨t554, A200, H⟩ := H
    replace H : (some t554) = some r := H
    have A20 := jA A200
    clear A200
    obtain rfl := jN H
    go_wp2_with (first | ((with_reducible refine jG (f := 70) rfl ?_); refine zL (some 36) Try.func70 #[.agg #[.bool false, .bool false, .bool false, .bool false, .bool false, .int .i64 0], .slice A1 l1.length c1] ?_; (with_reducible refine (spec_l25Code.calls k1 false false false false false 0 _ _ l1 t554 _ ?side1 ?side2 A20.out).mono ?_); (case side1 => exact zs HR1 HB); (case side2 => exact HC1.out); rintro e w21 ⟨rfl, hb⟩; refine ⟨_, rfl, ?_⟩; replace HB := zS0 HB hb; clear hb))
    go_ret
    exact ⟨ze, zb0 HB⟩

end Go.Proofs.Ythieppjmjgijfaa.PFnProofs
