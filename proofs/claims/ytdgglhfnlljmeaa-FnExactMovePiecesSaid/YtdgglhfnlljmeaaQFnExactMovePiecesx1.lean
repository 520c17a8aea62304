/- Functions and contracts that FnExactMovePieces reaches (2 of 24). -/
import Derived.Test.YtdgglhfnlljmeaaQFnExactMovePiecesx0
namespace Go.Proofs.Ytdgglhfnlljmeaa.PFnExactMovePieces
open Go.RowKit Go.Proofs.YtdgglhfnlljmeaaW.PrintWords Go.Proofs.YtdgglhfnlljmeaaW.PrintLast Go.Proofs.YtdgglhfnlljmeaaW.PrintMore
attribute [local go_sem] max2_int min2_int max_two min_two max_three min_three max_four min_four   -- for this text's walks alone
set_option linter.unusedVariables false
set_option linter.unusedSimpArgs false
open Go.Proofs.YtdgglhfnlljmeaaX

/-! ### spec_AreArticles: function 83 -/
def spec_AreArticles.l0 : Nat → List (S65) → Int → Option (Bool)
 | 0, _, _ => none
 | k + 1, x0, x3 => if x3 < (x0.length : Int) then (if 0 ≤ x3 then ((spec_IsArticle.f k ((rd_T65 x0 x3).f0) ((rd_T65 x0 x3).f1) ((rd_T65 x0 x3).f2) ((rd_T65 x0 x3).f3) ((rd_T65 x0 x3).f4) ((rd_T65 x0 x3).f5) ((rd_T65 x0 x3).f6) ((rd_T65 x0 x3).f7) ((rd_T65 x0 x3).f8)).bind fun t118 => (if t118 = true then (if x3 > 0 then (if 0 ≤ (wrap64 (x3 - 1)) then (if (wrap64 (x3 - 1)) < (x0.length : Int) then (if (Op.bytesLess (((rd_T65 x0 (wrap64 (x3 - 1))).f0).toList) (((rd_T65 x0 x3).f0).toList)) = true then (spec_AreArticles.l0 k x0 (wrap64 (x3 + 1))) else (some false)) else (none)) else (none)) else (spec_AreArticles.l0 k x0 (wrap64 (x3 + 1)))) else (some false))) else (none)) else (some (decide ((x0.length : Int) ≤ 12)))
def spec_AreArticles.f (k : Nat) (l0 : List (S65)) : Option (Bool) := spec_AreArticles.l0 k l0 0
theorem spec_AreArticles.mono_l : ∀ k, (∀ y0 y1, LeO (spec_AreArticles.l0 k y0 y1) (spec_AreArticles.l0 (k + 1) y0 y1))
 | 0 => fun _ _ r h => by simp [spec_AreArticles.l0] at h
 | k + 1 => by
  have ih0 := spec_AreArticles.mono_l k
  ·intro y0 y1
   unfold spec_AreArticles.l0
   repeat' first
   | (with_reducible exact ih0 _ _)
   | (with_reducible exact spec_IsArticle.mono _ _ _ _ _ _ _ _ _ _)
   | (with_reducible exact LeO.refl _)
   | (with_reducible exact LeO.none _)
   | (with_reducible refine LeO.ite ?_ ?_)
   | (with_reducible refine LeO.bind ?_ (fun _ => ?_))
   | exact ih0 _ _
   | exact spec_IsArticle.mono _ _ _ _ _ _ _ _ _ _
   | exact LeO.none _
   | refine LeO.ite ?_ ?_
   | refine LeO.bind ?_ (fun _ => ?_)
theorem spec_AreArticles.mono : ∀ a0 k, LeO (spec_AreArticles.f k a0) (spec_AreArticles.f (k + 1) a0) := by
 intro a0 k
 have ih0 := spec_AreArticles.mono_l k
 unfold spec_AreArticles.f
 repeat' first
   | (with_reducible exact ih0 _ _)
   | (with_reducible exact spec_IsArticle.mono _ _ _ _ _ _ _ _ _ _)
   | (with_reducible exact LeO.refl _)
   | (with_reducible exact LeO.none _)
   | (with_reducible refine LeO.ite ?_ ?_)
   | (with_reducible refine LeO.bind ?_ (fun _ => ?_))
   | exact ih0 _ _
   | exact spec_IsArticle.mono _ _ _ _ _ _ _ _ _ _
   | exact LeO.none _
   | refine LeO.ite ?_ ?_
   | refine LeO.bind ?_ (fun _ => ?_)
def spec_AreArticles.T4 : Bool × List (List Nat × List Nat) := (true, [([], []), ([], []), ([0, 1], [0, 1]), ([2], [2]), ([3], [3]), ([4], [4]), ([5, 4], [5]), ([6], [6]), ([7, 6], [6, 7]), ([8, 6, 6], [6, 8]), ([9], [9]), ([9], [9]), ([11, 9], [9, 11]), ([10, 12, 9], [9, 10, 12]), ([13, 9], [9, 13]), ([14, 9], [9, 14]), ([9], [9]), ([9], [9]), ([16, 17, 9], [9, 16, 17]), ([18, 9], [9, 18]), ([19, 9], [9, 19]), ([15, 20, 9], [9, 15, 20]), ([9, 21, 6], [6, 9, 21]), ([6, 22], [6, 22])])
def spec_AreArticles.B4 : List Nat := [0, 0, 3, 7, 15, 31, 63, 127, 255, 511, 1023, 1023, 3071, 8191, 16383, 32767, 1023, 1023, 197631, 459775, 984063, 2097151, 4194303, 8388607]
theorem spec_AreArticles.tab4 : rtab .any (opsOf Try.f83 4) = spec_AreArticles.T4 := by kernel_rfl
theorem spec_AreArticles.bits4 : waitsOk spec_AreArticles.T4.2 spec_AreArticles.B4 = true := by kernel_rfl
set_option maxHeartbeats 8000000 in
set_option maxRecDepth 100000 in
theorem spec_AreArticles.calls (k : Nat) (A0 : Option Addr) (c0 : Nat) (l0 : List (S65)) (r : Bool) (w : World) (hr0 : Kd.C k65 w A0 l0.length l0) (hc0 : l0.length ≤ c0) (h : spec_AreArticles.f k l0 = some r) :
  Calls Try.prog 83 #[.slice A0 l0.length c0] w fun e w' => e = .returned (.bool r) ∧ Below w.heap.size w w' := by
 have hu65 := Try.underlying65
 have HR0 := jA hr0
 have HC0 := jA hc0
 clear hr0 hc0
 have HB := jA (Below.refl w.heap.size w)
 have H : (spec_AreArticles.l0 k l0 0) = some r := h
 clear h
 have H' := jA H
 clear H
 go_enter Try.func83, Try.ntmps83
 go_wp2
 go_loopg [3] k (fun kq v3 w' => ∃ (x3_1 : Int), v3 = .int .i64 x3_1 ∧ Aside0 (spec_AreArticles.l0 kq l0 x3_1 = some r) ∧ Aside0 (kq ≤ k) ∧ Aside0 (Below w.heap.size w w'))
 case atStart => exact ⟨(0), zz, H', ⟨Nat.le_refl _⟩, ⟨zb0 HB⟩⟩
 case round =>
  clear H'
  obtain ⟨x3_1, rfl, HA, HK1, HB⟩ := hrel
  cases gk with
  | zero => exact absurd HA.out (by simp [spec_AreArticles.l0])
  | succ k1 =>
   have H := HA.out
   clear HA
   simp only [spec_AreArticles.l0] at H
   by_cases c2 : x3_1 < (l0.length : Int)
   ·rw [if_pos c2] at H
    have c2b0 : decide (x3_1 < (l0.length : Int)) = true := jI c2
    clear c2
    by_cases c3 : 0 ≤ x3_1
    ·rw [if_pos c3] at H
     have c3b0 : decide (0 ≤ x3_1) = true := jI c3
     clear c3
     replace H := jG.mp H
     obtain ⟨t118, A40, H⟩ := H
     replace H : (if t118 = true then (if x3_1 > 0 then (if 0 ≤ (wrap64 (x3_1 - 1)) then (if (wrap64 (x3_1 - 1)) < (l0.length : Int) then (if (Op.bytesLess (((rd_T65 l0 (wrap64 (x3_1 - 1))).f0).toList) (((rd_T65 l0 x3_1).f0).toList)) = true then (spec_AreArticles.l0 k1 l0 (wrap64 (x3_1 + 1))) else (some false)) else (none)) else (none)) else (spec_AreArticles.l0 k1 l0 (wrap64 (x3_1 + 1)))) else (some false)) = some r := H
     have A4 := jA A40
     clear A40
     by_cases c5 : t118 = true
     ·subst c5
      rw [if_pos rfl] at H
      by_cases c6 : x3_1 > 0
      ·rw [if_pos c6] at H
       have c6b0 : decide (0 < x3_1) = true := jI c6
       clear c6
       obtain ⟨ji7, hji7⟩ : ∃ j_ : Int, (wrap64 (x3_1 - 1)) = j_ := ⟨_, rfl⟩
       replace H : (if 0 ≤ (ji7) then (if (ji7) < (l0.length : Int) then (if (Op.bytesLess (((rd_T65 l0 (ji7)).f0).toList) (((rd_T65 l0 x3_1).f0).toList)) = true then (spec_AreArticles.l0 k1 l0 (wrap64 (x3_1 + 1))) else (some false)) else (none)) else (none)) = some r := by first | (rw [hji7] at H; exact H) | (simp only [hji7] at H ⊢; exact H)
       (try rw [hji7] at A4)
       have hji7w : (IntKind.i64.wrap (x3_1 - 1)) = ji7 := (i64_w _).trans hji7
       by_cases c8 : 0 ≤ (ji7)
       ·rw [if_pos c8] at H
        have c8b0 : decide (0 ≤ (ji7)) = true := jI c8
        clear c8
        by_cases c9 : (ji7) < (l0.length : Int)
        ·rw [if_pos c9] at H
         have c9b0 : decide ((ji7) < (l0.length : Int)) = true := jI c9
         clear c9
         by_cases c10 : (Op.bytesLess (((rd_T65 l0 (ji7)).f0).toList) (((rd_T65 l0 x3_1).f0).toList)) = true
         ·rw [if_pos c10] at H
          have c10b0 : (Op.bytesLess (((rd_T65 l0 (ji7)).f0).toList) (((rd_T65 l0 x3_1).f0).toList)) = true := c10
          clear c10
          have H' := jA H
          clear H
          try go_wp2
          replace HB := jA (jR HB.out)
          have p117 : 0 ≤ (x3_1 : Int) := jB za
          have q117 : x3_1 < (l0.length : Int) := jB za
          obtain ⟨ad117, e117, hx117_0, hx117_1, hx117_2, hx117_3, hx117_4, hx117_5, hx117_6, hx117_7, hx117_8⟩ := at_T65 HR0.out x3_1 p117 q117
          have hw117_8 := hx117_8
          have hw117_7 := hx117_7
          have hw117_6 := hx117_6
          have hw117_5 := hx117_5
          have hw117_4 := hx117_4
          have hw117_3 := hx117_3
          have hw117_2 := hx117_2
          have hw117_1 := hx117_1
          have hw117_0 := hx117_0
          cases e117
          replace hx117_0 := zx HB hx117_0
          replace hx117_1 := zx HB hx117_1
          replace hx117_2 := zx HB hx117_2
          replace hx117_3 := zx HB hx117_3
          replace hx117_4 := zx HB hx117_4
          replace hx117_5 := zx HB hx117_5
          replace hx117_6 := zx HB hx117_6
          replace hx117_7 := zx HB hx117_7
          replace hx117_8 := zx HB hx117_8
          replace p117 := eq_true p117
          replace q117 := eq_true q117
          have p119 : 0 ≤ ((ji7) : Int) := jB za
          have q119 : (ji7) < (l0.length : Int) := jB za
          obtain ⟨ad119, e119, hx119_0, hx119_1, hx119_2, hx119_3, hx119_4, hx119_5, hx119_6, hx119_7, hx119_8⟩ := at_T65 HR0.out (ji7) p119 q119
          clear hx119_1 hx119_2 hx119_3 hx119_4 hx119_5 hx119_6 hx119_7 hx119_8
          have hw119_0 := hx119_0
          obtain rfl : ad117 = ad119 := (by injection e119)
          replace hx119_0 := zx HB hx119_0
          replace p119 := eq_true p119
          replace q119 := eq_true q119
          refine start_ (n := 24) (S := fun w' => w'.cell? (ad117.add ((x3_1).toNat * 9)) = some (.string ((rd_T65 l0 x3_1).f0)) ∧ w'.cell? ⟨(ad117.add ((x3_1).toNat * 9)).block, (ad117.add ((x3_1).toNat * 9)).off + 1, none⟩ = some (.int .i64 ((rd_T65 l0 x3_1).f1)) ∧ w'.cell? ⟨(ad117.add ((x3_1).toNat * 9)).block, (ad117.add ((x3_1).toNat * 9)).off + 2, none⟩ = some (.int .i64 ((rd_T65 l0 x3_1).f2)) ∧ w'.cell? ⟨(ad117.add ((x3_1).toNat * 9)).block, (ad117.add ((x3_1).toNat * 9)).off + 3, none⟩ = some (.int .i64 ((rd_T65 l0 x3_1).f3)) ∧ w'.cell? ⟨(ad117.add ((x3_1).toNat * 9)).block, (ad117.add ((x3_1).toNat * 9)).off + 4, none⟩ = some (.int .i64 ((rd_T65 l0 x3_1).f4)) ∧ w'.cell? ⟨(ad117.add ((x3_1).toNat * 9)).block, (ad117.add ((x3_1).toNat * 9)).off + 5, none⟩ = some (.int .i64 ((rd_T65 l0 x3_1).f5)) ∧ w'.cell? ⟨(ad117.add ((x3_1).toNat * 9)).block, (ad117.add ((x3_1).toNat * 9)).off + 6, none⟩ = some (.int .i64 ((rd_T65 l0 x3_1).f6)) ∧ w'.cell? ⟨(ad117.add ((x3_1).toNat * 9)).block, (ad117.add ((x3_1).toNat * 9)).off + 7, none⟩ = some (.int .i64 ((rd_T65 l0 x3_1).f7)) ∧ w'.cell? ⟨(ad117.add ((x3_1).toNat * 9)).block, (ad117.add ((x3_1).toNat * 9)).off + 8, none⟩ = some (.int .i64 ((rd_T65 l0 x3_1).f8)) ∧ w'.cell? (ad117.add (((ji7)).toNat * 9)) = some (.string ((rd_T65 l0 (ji7)).f0))) (ds := []) m24_0 zr rfl rfl ⟨(zx HB hw117_0), (zx HB hw117_1), (zx HB hw117_2), (zx HB hw117_3), (zx HB hw117_4), (zx HB hw117_5), (zx HB hw117_6), (zx HB hw117_7), (zx HB hw117_8), (zx HB hw119_0)⟩ (fun hHeld => ?_); refine with_tabW spec_AreArticles.tab4 spec_AreArticles.bits4 (fun HT_ HW_ => ?_)
          generalize wr.drew = w11 at HB hx117_0 hx117_1 hx117_2 hx117_3 hx117_4 hx117_5 hx117_6 hx117_7 hx117_8 hx119_0 hHeld ⊢
          refine zp HT_ 0 10 m24_800000 ?_
          refine zp HT_ 1 11 m24_c00000 ?_
          refine zp HT_ 2 12 m24_e00000 ?_
          refine zt10 HT_ HW_ hHeld 3 13 m24_f00000 ?_
          refine one_ (i := 4) (N := some 14) m24_f80000 rfl rfl (one_of HT_.out zr) (by decide) (fun K hK => ?_)
          refine goes_ Try.func89 zr rfl #[.agg #[.string ((rd_T65 l0 x3_1).f0), .int .i64 ((rd_T65 l0 x3_1).f1), .int .i64 ((rd_T65 l0 x3_1).f2), .int .i64 ((rd_T65 l0 x3_1).f3), .int .i64 ((rd_T65 l0 x3_1).f4), .int .i64 ((rd_T65 l0 x3_1).f5), .int .i64 ((rd_T65 l0 x3_1).f6), .int .i64 ((rd_T65 l0 x3_1).f7), .int .i64 ((rd_T65 l0 x3_1).f8)]] (by rfl) rfl rfl zm ?_
          with_reducible refine (spec_IsArticle.calls k1 ((rd_T65 l0 x3_1).f0) ((rd_T65 l0 x3_1).f1) ((rd_T65 l0 x3_1).f2) ((rd_T65 l0 x3_1).f3) ((rd_T65 l0 x3_1).f4) ((rd_T65 l0 x3_1).f5) ((rd_T65 l0 x3_1).f6) ((rd_T65 l0 x3_1).f7) ((rd_T65 l0 x3_1).f8) true _ A4.out).mono ?_
          rintro e w12 ⟨rfl, hb⟩
          refine ⟨_, rfl, ?_⟩
          replace HB := zS0 HB hb
          (try clear hb)
          (try clear hb2)
          (try clear hk)
          (try clear hi)
          refine hK.out _ _ ⟨(zx HB hw117_0), (zx HB hw117_1), (zx HB hw117_2), (zx HB hw117_3), (zx HB hw117_4), (zx HB hw117_5), (zx HB hw117_6), (zx HB hw117_7), (zx HB hw117_8), (zx HB hw119_0)⟩ (fun hHeld => ?_)
          clear hK K
          refine norm_ (a' := ?_) ?_ ?_
          rotate_left
          ·show Act.put _ (some 14) _ = _
           simp only [Act.put, jC, jE, jF, i64_w, i32_w]
           rfl
          refine zp HT_ 5 15 m24_fc0000 ?_
          refine zp HT_ 6 16 m24_fe0000 ?_
          refine zp HT_ 7 17 m24_ff0000 ?_
          refine zp HT_ 8 18 m24_ff8000 ?_
          refine zp HT_ 9 19 m24_ffc000 ?_
          refine zp HT_ 10 20 m24_ffe000 ?_
          refine zp HT_ 11 21 m24_fff000 ?_
          refine zp HT_ 12 22 m24_fff800 ?_
          refine zp HT_ 13 23 m24_fffc00 ?_
          refine zp HT_ 14 24 m24_fffe00 ?_
          refine zp HT_ 16 26 m24_fffe80 ?_
          refine zp HT_ 17 27 m24_fffec0 ?_
          refine zp HT_ 18 28 m24_fffee0 ?_
          refine zp HT_ 19 29 m24_fffef0 ?_
          refine zt10 HT_ HW_ hHeld 15 25 m24_fffff0 ?_
          refine zt10 HT_ HW_ hHeld 20 30 m24_fffff8 ?_
          refine zp HT_ 21 31 m24_fffffc ?_
          refine zp HT_ 22 32 m24_fffffe ?_
          refine zp HT_ 23 33 m24_ffffff ?_
          refine done_ (done_of HT_.out zr) ?_
          try go_wp2
          go_roundg k1
          case measure => have := HK1.out; omega
          case rel => exact ⟨(wrap64 (x3_1 + 1)), zz, H', ⟨by have := HK1.out; omega⟩, ⟨zb0 HB⟩⟩
         ·rw [if_neg c10] at H
          have c10b0 : (Op.bytesLess (((rd_T65 l0 (ji7)).f0).toList) (((rd_T65 l0 x3_1).f0).toList)) = false := by simpa using c10
          clear c10
          obtain rfl := jH H
          try go_wp2
          replace HB := jA (jR HB.out)
          have p117 : 0 ≤ (x3_1 : Int) := jB za
          have q117 : x3_1 < (l0.length : Int) := jB za
          obtain ⟨ad117, e117, hx117_0, hx117_1, hx117_2, hx117_3, hx117_4, hx117_5, hx117_6, hx117_7, hx117_8⟩ := at_T65 HR0.out x3_1 p117 q117
          have hw117_8 := hx117_8
          have hw117_7 := hx117_7
          have hw117_6 := hx117_6
          have hw117_5 := hx117_5
          have hw117_4 := hx117_4
          have hw117_3 := hx117_3
          have hw117_2 := hx117_2
          have hw117_1 := hx117_1
          have hw117_0 := hx117_0
          cases e117
          replace hx117_0 := zx HB hx117_0
          replace hx117_1 := zx HB hx117_1
          replace hx117_2 := zx HB hx117_2
          replace hx117_3 := zx HB hx117_3
          replace hx117_4 := zx HB hx117_4
          replace hx117_5 := zx HB hx117_5
          replace hx117_6 := zx HB hx117_6
          replace hx117_7 := zx HB hx117_7
          replace hx117_8 := zx HB hx117_8
          replace p117 := eq_true p117
          replace q117 := eq_true q117
          have p119 : 0 ≤ ((ji7) : Int) := jB za
          have q119 : (ji7) < (l0.length : Int) := jB za
          obtain ⟨ad119, e119, hx119_0, hx119_1, hx119_2, hx119_3, hx119_4, hx119_5, hx119_6, hx119_7, hx119_8⟩ := at_T65 HR0.out (ji7) p119 q119
          clear hx119_1 hx119_2 hx119_3 hx119_4 hx119_5 hx119_6 hx119_7 hx119_8
          have hw119_0 := hx119_0
          obtain rfl : ad117 = ad119 := (by injection e119)
          replace hx119_0 := zx HB hx119_0
          replace p119 := eq_true p119
          replace q119 := eq_true q119
          refine start_ (n := 24) (S := fun w' => w'.cell? (ad117.add ((x3_1).toNat * 9)) = some (.string ((rd_T65 l0 x3_1).f0)) ∧ w'.cell? ⟨(ad117.add ((x3_1).toNat * 9)).block, (ad117.add ((x3_1).toNat * 9)).off + 1, none⟩ = some (.int .i64 ((rd_T65 l0 x3_1).f1)) ∧ w'.cell? ⟨(ad117.add ((x3_1).toNat * 9)).block, (ad117.add ((x3_1).toNat * 9)).off + 2, none⟩ = some (.int .i64 ((rd_T65 l0 x3_1).f2)) ∧ w'.cell? ⟨(ad117.add ((x3_1).toNat * 9)).block, (ad117.add ((x3_1).toNat * 9)).off + 3, none⟩ = some (.int .i64 ((rd_T65 l0 x3_1).f3)) ∧ w'.cell? ⟨(ad117.add ((x3_1).toNat * 9)).block, (ad117.add ((x3_1).toNat * 9)).off + 4, none⟩ = some (.int .i64 ((rd_T65 l0 x3_1).f4)) ∧ w'.cell? ⟨(ad117.add ((x3_1).toNat * 9)).block, (ad117.add ((x3_1).toNat * 9)).off + 5, none⟩ = some (.int .i64 ((rd_T65 l0 x3_1).f5)) ∧ w'.cell? ⟨(ad117.add ((x3_1).toNat * 9)).block, (ad117.add ((x3_1).toNat * 9)).off + 6, none⟩ = some (.int .i64 ((rd_T65 l0 x3_1).f6)) ∧ w'.cell? ⟨(ad117.add ((x3_1).toNat * 9)).block, (ad117.add ((x3_1).toNat * 9)).off + 7, none⟩ = some (.int .i64 ((rd_T65 l0 x3_1).f7)) ∧ w'.cell? ⟨(ad117.add ((x3_1).toNat * 9)).block, (ad117.add ((x3_1).toNat * 9)).off + 8, none⟩ = some (.int .i64 ((rd_T65 l0 x3_1).f8)) ∧ w'.cell? (ad117.add (((ji7)).toNat * 9)) = some (.string ((rd_T65 l0 (ji7)).f0))) (ds := []) m24_0 zr rfl rfl ⟨(zx HB hw117_0), (zx HB hw117_1), (zx HB hw117_2), (zx HB hw117_3), (zx HB hw117_4), (zx HB hw117_5), (zx HB hw117_6), (zx HB hw117_7), (zx HB hw117_8), (zx HB hw119_0)⟩ (fun hHeld => ?_); refine with_tabW spec_AreArticles.tab4 spec_AreArticles.bits4 (fun HT_ HW_ => ?_)
          generalize wr.drew = w13 at HB hx117_0 hx117_1 hx117_2 hx117_3 hx117_4 hx117_5 hx117_6 hx117_7 hx117_8 hx119_0 hHeld ⊢
          refine zp HT_ 0 10 m24_800000 ?_
          refine zp HT_ 1 11 m24_c00000 ?_
          refine zp HT_ 2 12 m24_e00000 ?_
          refine zt10 HT_ HW_ hHeld 3 13 m24_f00000 ?_
          refine one_ (i := 4) (N := some 14) m24_f80000 rfl rfl (one_of HT_.out zr) (by decide) (fun K hK => ?_)
          refine goes_ Try.func89 zr rfl #[.agg #[.string ((rd_T65 l0 x3_1).f0), .int .i64 ((rd_T65 l0 x3_1).f1), .int .i64 ((rd_T65 l0 x3_1).f2), .int .i64 ((rd_T65 l0 x3_1).f3), .int .i64 ((rd_T65 l0 x3_1).f4), .int .i64 ((rd_T65 l0 x3_1).f5), .int .i64 ((rd_T65 l0 x3_1).f6), .int .i64 ((rd_T65 l0 x3_1).f7), .int .i64 ((rd_T65 l0 x3_1).f8)]] (by rfl) rfl rfl zm ?_
          with_reducible refine (spec_IsArticle.calls k1 ((rd_T65 l0 x3_1).f0) ((rd_T65 l0 x3_1).f1) ((rd_T65 l0 x3_1).f2) ((rd_T65 l0 x3_1).f3) ((rd_T65 l0 x3_1).f4) ((rd_T65 l0 x3_1).f5) ((rd_T65 l0 x3_1).f6) ((rd_T65 l0 x3_1).f7) ((rd_T65 l0 x3_1).f8) true _ A4.out).mono ?_
          rintro e w14 ⟨rfl, hb⟩
          refine ⟨_, rfl, ?_⟩
          replace HB := zS0 HB hb
          (try clear hb)
          (try clear hb2)
          (try clear hk)
          (try clear hi)
          refine hK.out _ _ ⟨(zx HB hw117_0), (zx HB hw117_1), (zx HB hw117_2), (zx HB hw117_3), (zx HB hw117_4), (zx HB hw117_5), (zx HB hw117_6), (zx HB hw117_7), (zx HB hw117_8), (zx HB hw119_0)⟩ (fun hHeld => ?_)
          clear hK K
          refine norm_ (a' := ?_) ?_ ?_
          rotate_left
          ·show Act.put _ (some 14) _ = _
           simp only [Act.put, jC, jE, jF, i64_w, i32_w]
           rfl
          refine zp HT_ 5 15 m24_fc0000 ?_
          refine zp HT_ 6 16 m24_fe0000 ?_
          refine zp HT_ 7 17 m24_ff0000 ?_
          refine zp HT_ 8 18 m24_ff8000 ?_
          refine zp HT_ 9 19 m24_ffc000 ?_
          refine zp HT_ 10 20 m24_ffe000 ?_
          refine zp HT_ 11 21 m24_fff000 ?_
          refine zp HT_ 12 22 m24_fff800 ?_
          refine zp HT_ 13 23 m24_fffc00 ?_
          refine zp HT_ 14 24 m24_fffe00 ?_
          refine zp HT_ 16 26 m24_fffe80 ?_
          refine zp HT_ 17 27 m24_fffec0 ?_
          refine zp HT_ 18 28 m24_fffee0 ?_
          refine zp HT_ 19 29 m24_fffef0 ?_
          refine zt10 HT_ HW_ hHeld 15 25 m24_fffff0 ?_
          refine zt10 HT_ HW_ hHeld 20 30 m24_fffff8 ?_
          refine zp HT_ 21 31 m24_fffffc ?_
          refine zp HT_ 22 32 m24_fffffe ?_
          refine zp HT_ 23 33 m24_ffffff ?_
          refine done_ (done_of HT_.out zr) ?_
          try go_wp2
          go_ret
          exact ⟨by first | rfl | (simp [errW_none, errW_some] <;> rfl) | (simp only [← hji7]; first | rfl | (simp [errW_none, errW_some] <;> rfl)) | (simp [*, errW_none, errW_some] <;> rfl), zb0 HB⟩
        ·rw [if_neg c9] at H
         exact absurd H (by simp)
       ·rw [if_neg c8] at H
        exact absurd H (by simp)
      ·rw [if_neg c6] at H
       have c6b0 : decide (0 < x3_1) = false := jM c6
       clear c6
       have H' := jA H
       clear H
       try go_wp2
       replace HB := jA (jR HB.out)
       have p117 : 0 ≤ (x3_1 : Int) := jB za
       have q117 : x3_1 < (l0.length : Int) := jB za
       obtain ⟨ad117, e117, hx117_0, hx117_1, hx117_2, hx117_3, hx117_4, hx117_5, hx117_6, hx117_7, hx117_8⟩ := at_T65 HR0.out x3_1 p117 q117
       have hw117_8 := hx117_8
       have hw117_7 := hx117_7
       have hw117_6 := hx117_6
       have hw117_5 := hx117_5
       have hw117_4 := hx117_4
       have hw117_3 := hx117_3
       have hw117_2 := hx117_2
       have hw117_1 := hx117_1
       have hw117_0 := hx117_0
       cases e117
       replace hx117_0 := zx HB hx117_0
       replace hx117_1 := zx HB hx117_1
       replace hx117_2 := zx HB hx117_2
       replace hx117_3 := zx HB hx117_3
       replace hx117_4 := zx HB hx117_4
       replace hx117_5 := zx HB hx117_5
       replace hx117_6 := zx HB hx117_6
       replace hx117_7 := zx HB hx117_7
       replace hx117_8 := zx HB hx117_8
       replace p117 := eq_true p117
       replace q117 := eq_true q117
       refine start_ (n := 24) (S := fun w' => w'.cell? (ad117.add ((x3_1).toNat * 9)) = some (.string ((rd_T65 l0 x3_1).f0)) ∧ w'.cell? ⟨(ad117.add ((x3_1).toNat * 9)).block, (ad117.add ((x3_1).toNat * 9)).off + 1, none⟩ = some (.int .i64 ((rd_T65 l0 x3_1).f1)) ∧ w'.cell? ⟨(ad117.add ((x3_1).toNat * 9)).block, (ad117.add ((x3_1).toNat * 9)).off + 2, none⟩ = some (.int .i64 ((rd_T65 l0 x3_1).f2)) ∧ w'.cell? ⟨(ad117.add ((x3_1).toNat * 9)).block, (ad117.add ((x3_1).toNat * 9)).off + 3, none⟩ = some (.int .i64 ((rd_T65 l0 x3_1).f3)) ∧ w'.cell? ⟨(ad117.add ((x3_1).toNat * 9)).block, (ad117.add ((x3_1).toNat * 9)).off + 4, none⟩ = some (.int .i64 ((rd_T65 l0 x3_1).f4)) ∧ w'.cell? ⟨(ad117.add ((x3_1).toNat * 9)).block, (ad117.add ((x3_1).toNat * 9)).off + 5, none⟩ = some (.int .i64 ((rd_T65 l0 x3_1).f5)) ∧ w'.cell? ⟨(ad117.add ((x3_1).toNat * 9)).block, (ad117.add ((x3_1).toNat * 9)).off + 6, none⟩ = some (.int .i64 ((rd_T65 l0 x3_1).f6)) ∧ w'.cell? ⟨(ad117.add ((x3_1).toNat * 9)).block, (ad117.add ((x3_1).toNat * 9)).off + 7, none⟩ = some (.int .i64 ((rd_T65 l0 x3_1).f7)) ∧ w'.cell? ⟨(ad117.add ((x3_1).toNat * 9)).block, (ad117.add ((x3_1).toNat * 9)).off + 8, none⟩ = some (.int .i64 ((rd_T65 l0 x3_1).f8))) (ds := []) m24_0 zr rfl rfl ⟨(zx HB hw117_0), (zx HB hw117_1), (zx HB hw117_2), (zx HB hw117_3), (zx HB hw117_4), (zx HB hw117_5), (zx HB hw117_6), (zx HB hw117_7), (zx HB hw117_8)⟩ (fun hHeld => ?_); refine with_tabW spec_AreArticles.tab4 spec_AreArticles.bits4 (fun HT_ HW_ => ?_)
       generalize wr.drew = w15 at HB hx117_0 hx117_1 hx117_2 hx117_3 hx117_4 hx117_5 hx117_6 hx117_7 hx117_8 hHeld ⊢
       refine zp HT_ 0 10 m24_800000 ?_
       refine zp HT_ 1 11 m24_c00000 ?_
       refine zp HT_ 2 12 m24_e00000 ?_
       refine zt9 HT_ HW_ hHeld 3 13 m24_f00000 ?_
       refine one_ (i := 4) (N := some 14) m24_f80000 rfl rfl (one_of HT_.out zr) (by decide) (fun K hK => ?_)
       refine goes_ Try.func89 zr rfl #[.agg #[.string ((rd_T65 l0 x3_1).f0), .int .i64 ((rd_T65 l0 x3_1).f1), .int .i64 ((rd_T65 l0 x3_1).f2), .int .i64 ((rd_T65 l0 x3_1).f3), .int .i64 ((rd_T65 l0 x3_1).f4), .int .i64 ((rd_T65 l0 x3_1).f5), .int .i64 ((rd_T65 l0 x3_1).f6), .int .i64 ((rd_T65 l0 x3_1).f7), .int .i64 ((rd_T65 l0 x3_1).f8)]] (by rfl) rfl rfl zm ?_
       with_reducible refine (spec_IsArticle.calls k1 ((rd_T65 l0 x3_1).f0) ((rd_T65 l0 x3_1).f1) ((rd_T65 l0 x3_1).f2) ((rd_T65 l0 x3_1).f3) ((rd_T65 l0 x3_1).f4) ((rd_T65 l0 x3_1).f5) ((rd_T65 l0 x3_1).f6) ((rd_T65 l0 x3_1).f7) ((rd_T65 l0 x3_1).f8) true _ A4.out).mono ?_
       rintro e w16 ⟨rfl, hb⟩
       refine ⟨_, rfl, ?_⟩
       replace HB := zS0 HB hb
       (try clear hb)
       (try clear hb2)
       (try clear hk)
       (try clear hi)
       refine hK.out _ _ ⟨(zx HB hw117_0), (zx HB hw117_1), (zx HB hw117_2), (zx HB hw117_3), (zx HB hw117_4), (zx HB hw117_5), (zx HB hw117_6), (zx HB hw117_7), (zx HB hw117_8)⟩ (fun hHeld => ?_)
       clear hK K
       refine norm_ (a' := ?_) ?_ ?_
       rotate_left
       ·show Act.put _ (some 14) _ = _
        simp only [Act.put, jC, jE, jF, i64_w, i32_w]
        rfl
       refine zp HT_ 5 15 m24_fc0000 ?_
       refine zp HT_ 6 16 m24_fe0000 ?_
       refine zp HT_ 7 17 m24_ff0000 ?_
       refine zp HT_ 8 18 m24_ff8000 ?_
       refine zp HT_ 9 19 m24_ffc000 ?_
       refine zq HT_ 10 20 m24_ffe000 ?_
       refine zq HT_ 11 21 m24_fff000 ?_
       refine zq HT_ 12 22 m24_fff800 ?_
       refine zq HT_ 13 23 m24_fffc00 ?_
       refine zq HT_ 14 24 m24_fffe00 ?_
       refine zq HT_ 15 25 m24_ffff00 ?_
       refine zq HT_ 16 26 m24_ffff80 ?_
       refine zq HT_ 17 27 m24_ffffc0 ?_
       refine zq HT_ 18 28 m24_ffffe0 ?_
       refine zq HT_ 19 29 m24_fffff0 ?_
       refine zq HT_ 20 30 m24_fffff8 ?_
       refine zq HT_ 21 31 m24_fffffc ?_
       refine zp HT_ 22 32 m24_fffffe ?_
       refine zp HT_ 23 33 m24_ffffff ?_
       refine done_ (done_of HT_.out zr) ?_
       try go_wp2
       go_roundg k1
       case measure => have := HK1.out; omega
       case rel => exact ⟨(wrap64 (x3_1 + 1)), zz, H', ⟨by have := HK1.out; omega⟩, ⟨zb0 HB⟩⟩
     ·replace c5 := Bool.eq_false_iff.mpr c5
      subst c5
      rw [if_neg zfalse] at H
      obtain rfl := jH H
      try go_wp2
      replace HB := jA (jR HB.out)
      have p117 : 0 ≤ (x3_1 : Int) := jB za
      have q117 : x3_1 < (l0.length : Int) := jB za
      obtain ⟨ad117, e117, hx117_0, hx117_1, hx117_2, hx117_3, hx117_4, hx117_5, hx117_6, hx117_7, hx117_8⟩ := at_T65 HR0.out x3_1 p117 q117
      have hw117_8 := hx117_8
      have hw117_7 := hx117_7
      have hw117_6 := hx117_6
      have hw117_5 := hx117_5
      have hw117_4 := hx117_4
      have hw117_3 := hx117_3
      have hw117_2 := hx117_2
      have hw117_1 := hx117_1
      have hw117_0 := hx117_0
      cases e117
      replace hx117_0 := zx HB hx117_0
      replace hx117_1 := zx HB hx117_1
      replace hx117_2 := zx HB hx117_2
      replace hx117_3 := zx HB hx117_3
      replace hx117_4 := zx HB hx117_4
      replace hx117_5 := zx HB hx117_5
      replace hx117_6 := zx HB hx117_6
      replace hx117_7 := zx HB hx117_7
      replace hx117_8 := zx HB hx117_8
      replace p117 := eq_true p117
      replace q117 := eq_true q117
      refine start_ (n := 24) (S := fun w' => w'.cell? (ad117.add ((x3_1).toNat * 9)) = some (.string ((rd_T65 l0 x3_1).f0)) ∧ w'.cell? ⟨(ad117.add ((x3_1).toNat * 9)).block, (ad117.add ((x3_1).toNat * 9)).off + 1, none⟩ = some (.int .i64 ((rd_T65 l0 x3_1).f1)) ∧ w'.cell? ⟨(ad117.add ((x3_1).toNat * 9)).block, (ad117.add ((x3_1).toNat * 9)).off + 2, none⟩ = some (.int .i64 ((rd_T65 l0 x3_1).f2)) ∧ w'.cell? ⟨(ad117.add ((x3_1).toNat * 9)).block, (ad117.add ((x3_1).toNat * 9)).off + 3, none⟩ = some (.int .i64 ((rd_T65 l0 x3_1).f3)) ∧ w'.cell? ⟨(ad117.add ((x3_1).toNat * 9)).block, (ad117.add ((x3_1).toNat * 9)).off + 4, none⟩ = some (.int .i64 ((rd_T65 l0 x3_1).f4)) ∧ w'.cell? ⟨(ad117.add ((x3_1).toNat * 9)).block, (ad117.add ((x3_1).toNat * 9)).off + 5, none⟩ = some (.int .i64 ((rd_T65 l0 x3_1).f5)) ∧ w'.cell? ⟨(ad117.add ((x3_1).toNat * 9)).block, (ad117.add ((x3_1).toNat * 9)).off + 6, none⟩ = some (.int .i64 ((rd_T65 l0 x3_1).f6)) ∧ w'.cell? ⟨(ad117.add ((x3_1).toNat * 9)).block, (ad117.add ((x3_1).toNat * 9)).off + 7, none⟩ = some (.int .i64 ((rd_T65 l0 x3_1).f7)) ∧ w'.cell? ⟨(ad117.add ((x3_1).toNat * 9)).block, (ad117.add ((x3_1).toNat * 9)).off + 8, none⟩ = some (.int .i64 ((rd_T65 l0 x3_1).f8))) (ds := []) m24_0 zr rfl rfl ⟨(zx HB hw117_0), (zx HB hw117_1), (zx HB hw117_2), (zx HB hw117_3), (zx HB hw117_4), (zx HB hw117_5), (zx HB hw117_6), (zx HB hw117_7), (zx HB hw117_8)⟩ (fun hHeld => ?_); refine with_tabW spec_AreArticles.tab4 spec_AreArticles.bits4 (fun HT_ HW_ => ?_)
      generalize wr.drew = w17 at HB hx117_0 hx117_1 hx117_2 hx117_3 hx117_4 hx117_5 hx117_6 hx117_7 hx117_8 hHeld ⊢
      refine zp HT_ 0 10 m24_800000 ?_
      refine zp HT_ 1 11 m24_c00000 ?_
      refine zp HT_ 2 12 m24_e00000 ?_
      refine zt9 HT_ HW_ hHeld 3 13 m24_f00000 ?_
      refine one_ (i := 4) (N := some 14) m24_f80000 rfl rfl (one_of HT_.out zr) (by decide) (fun K hK => ?_)
      refine goes_ Try.func89 zr rfl #[.agg #[.string ((rd_T65 l0 x3_1).f0), .int .i64 ((rd_T65 l0 x3_1).f1), .int .i64 ((rd_T65 l0 x3_1).f2), .int .i64 ((rd_T65 l0 x3_1).f3), .int .i64 ((rd_T65 l0 x3_1).f4), .int .i64 ((rd_T65 l0 x3_1).f5), .int .i64 ((rd_T65 l0 x3_1).f6), .int .i64 ((rd_T65 l0 x3_1).f7), .int .i64 ((rd_T65 l0 x3_1).f8)]] (by rfl) rfl rfl zm ?_
      with_reducible refine (spec_IsArticle.calls k1 ((rd_T65 l0 x3_1).f0) ((rd_T65 l0 x3_1).f1) ((rd_T65 l0 x3_1).f2) ((rd_T65 l0 x3_1).f3) ((rd_T65 l0 x3_1).f4) ((rd_T65 l0 x3_1).f5) ((rd_T65 l0 x3_1).f6) ((rd_T65 l0 x3_1).f7) ((rd_T65 l0 x3_1).f8) false _ A4.out).mono ?_
      rintro e w18 ⟨rfl, hb⟩
      refine ⟨_, rfl, ?_⟩
      replace HB := zS0 HB hb
      (try clear hb)
      (try clear hb2)
      (try clear hk)
      (try clear hi)
      refine hK.out _ _ ⟨(zx HB hw117_0), (zx HB hw117_1), (zx HB hw117_2), (zx HB hw117_3), (zx HB hw117_4), (zx HB hw117_5), (zx HB hw117_6), (zx HB hw117_7), (zx HB hw117_8)⟩ (fun hHeld => ?_)
      clear hK K
      refine norm_ (a' := ?_) ?_ ?_
      rotate_left
      ·show Act.put _ (some 14) _ = _
       simp only [Act.put, jC, jE, jF, i64_w, i32_w]
       rfl
      refine zp HT_ 5 15 m24_fc0000 ?_
      refine zp HT_ 6 16 m24_fe0000 ?_
      refine zq HT_ 7 17 m24_ff0000 ?_
      refine zq HT_ 8 18 m24_ff8000 ?_
      refine zq HT_ 9 19 m24_ffc000 ?_
      refine zq HT_ 10 20 m24_ffe000 ?_
      refine zq HT_ 11 21 m24_fff000 ?_
      refine zq HT_ 12 22 m24_fff800 ?_
      refine zq HT_ 13 23 m24_fffc00 ?_
      refine zq HT_ 14 24 m24_fffe00 ?_
      refine zq HT_ 15 25 m24_ffff00 ?_
      refine zq HT_ 16 26 m24_ffff80 ?_
      refine zq HT_ 17 27 m24_ffffc0 ?_
      refine zq HT_ 18 28 m24_ffffe0 ?_
      refine zq HT_ 19 29 m24_fffff0 ?_
      refine zq HT_ 20 30 m24_fffff8 ?_
      refine zq HT_ 21 31 m24_fffffc ?_
      refine zq HT_ 22 32 m24_fffffe ?_
      refine zp HT_ 23 33 m24_ffffff ?_
      refine done_ (done_of HT_.out zr) ?_
      try go_wp2
      go_ret
      exact ⟨ze, zb0 HB⟩
    ·rw [if_neg c3] at H
     exact absurd H (by simp)
   ·rw [if_neg c2] at H
    have c2b0 : decide (x3_1 < (l0.length : Int)) = false := jM c2
    clear c2
    obtain rfl := jH H
    go_wp2
    go_ret
    exact ⟨ze, zb0 HB⟩

end Go.Proofs.Ytdgglhfnlljmeaa.PFnExactMovePieces
