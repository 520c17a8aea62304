/- Functions and contracts that FnExactMovePieces reaches (22 of 24). -/
import Derived.Test.YtdgglhfnlljmeaaQFnExactMovePiecesx20
namespace Go.Proofs.Ytdgglhfnlljmeaa.PFnExactMovePieces
open Go.RowKit Go.Proofs.YtdgglhfnlljmeaaW.PrintWords Go.Proofs.YtdgglhfnlljmeaaW.PrintLast Go.Proofs.YtdgglhfnlljmeaaW.PrintMore
attribute [local go_sem] max2_int min2_int max_two min_two max_three min_three max_four min_four   -- for this text's walks alone
set_option linter.unusedVariables false
set_option linter.unusedSimpArgs false
open Go.Proofs.YtdgglhfnlljmeaaX

/-! ### laws_eqArticleS: function 53 -/
def laws_eqArticleS.l0 : Nat → List (S65) → List (S65) → Int → Option (Bool)
 | 0, _, _, _ => none
 | k + 1, x0, x1, x5 => if x5 < (x0.length : Int) then (if 0 ≤ x5 then (if x5 < (x1.length : Int) then ((laws_eqArticle.f ((rd_T65 x0 x5).f0) ((rd_T65 x0 x5).f1) ((rd_T65 x0 x5).f2) ((rd_T65 x0 x5).f3) ((rd_T65 x0 x5).f4) ((rd_T65 x0 x5).f5) ((rd_T65 x0 x5).f6) ((rd_T65 x0 x5).f7) ((rd_T65 x0 x5).f8) ((rd_T65 x1 x5).f0) ((rd_T65 x1 x5).f1) ((rd_T65 x1 x5).f2) ((rd_T65 x1 x5).f3) ((rd_T65 x1 x5).f4) ((rd_T65 x1 x5).f5) ((rd_T65 x1 x5).f6) ((rd_T65 x1 x5).f7) ((rd_T65 x1 x5).f8)).bind fun t346 => (if t346 = true then (laws_eqArticleS.l0 k x0 x1 (wrap64 (x5 + 1))) else (some false))) else (none)) else (none)) else (some true)
def laws_eqArticleS.f (k : Nat) (l0 : List (S65)) (l1 : List (S65)) : Option (Bool) := if (l0.length : Int) = (l1.length : Int) then (laws_eqArticleS.l0 k l0 l1 0) else (some false)
theorem laws_eqArticleS.mono_l : ∀ k, (∀ y0 y1 y2, LeO (laws_eqArticleS.l0 k y0 y1 y2) (laws_eqArticleS.l0 (k + 1) y0 y1 y2))
 | 0 => fun _ _ _ r h => by simp [laws_eqArticleS.l0] at h
 | k + 1 => by
  have ih0 := laws_eqArticleS.mono_l k
  ·intro y0 y1 y2
   unfold laws_eqArticleS.l0
   repeat' first
   | (with_reducible exact ih0 _ _ _)
   | (with_reducible exact LeO.refl _)
   | (with_reducible exact LeO.none _)
   | (with_reducible refine LeO.ite ?_ ?_)
   | (with_reducible refine LeO.bind ?_ (fun _ => ?_))
   | exact ih0 _ _ _
   | exact LeO.none _
   | refine LeO.ite ?_ ?_
   | refine LeO.bind ?_ (fun _ => ?_)
theorem laws_eqArticleS.mono : ∀ a0 a1 k, LeO (laws_eqArticleS.f k a0 a1) (laws_eqArticleS.f (k + 1) a0 a1) := by
 intro a0 a1 k
 have ih0 := laws_eqArticleS.mono_l k
 unfold laws_eqArticleS.f
 repeat' first
   | (with_reducible exact ih0 _ _ _)
   | (with_reducible exact LeO.refl _)
   | (with_reducible exact LeO.none _)
   | (with_reducible refine LeO.ite ?_ ?_)
   | (with_reducible refine LeO.bind ?_ (fun _ => ?_))
   | exact ih0 _ _ _
   | exact LeO.none _
   | refine LeO.ite ?_ ?_
   | refine LeO.bind ?_ (fun _ => ?_)
def laws_eqArticleS.T6 : Bool × List (List Nat × List Nat) := (true, [([], []), ([], []), ([0, 1], [0, 1]), ([2], [2]), ([], []), ([], []), ([4, 5], [4, 5]), ([6], [6]), ([3, 7], [3, 7]), ([8], [8])])
def laws_eqArticleS.B6 : List Nat := [0, 0, 3, 7, 0, 0, 48, 112, 255, 511]
theorem laws_eqArticleS.tab6 : rtab .any (opsOf Try.f53 6) = laws_eqArticleS.T6 := by kernel_rfl
theorem laws_eqArticleS.bits6 : waitsOk laws_eqArticleS.T6.2 laws_eqArticleS.B6 = true := by kernel_rfl
set_option maxHeartbeats 8000000 in
set_option maxRecDepth 100000 in
theorem laws_eqArticleS.calls (k : Nat) (A0 : Option Addr) (c0 : Nat) (l0 : List (S65)) (A1 : Option Addr) (c1 : Nat) (l1 : List (S65)) (r : Bool) (w : World) (hr0 : Kd.C k65 w A0 l0.length l0) (hc0 : l0.length ≤ c0) (hr1 : Kd.C k65 w A1 l1.length l1) (hc1 : l1.length ≤ c1) (h : laws_eqArticleS.f k l0 l1 = some r) :
  Calls Try.prog 53 #[.slice A0 l0.length c0, .slice A1 l1.length c1] w fun e w' => e = .returned (.bool r) ∧ Below w.heap.size w w' := by
 have hu65 := Try.underlying65
 have HR0 := jA hr0
 have HC0 := jA hc0
 clear hr0 hc0
 have HR1 := jA hr1
 have HC1 := jA hc1
 clear hr1 hc1
 have HB := jA (Below.refl w.heap.size w)
 have H := h
 unfold laws_eqArticleS.f at H
 clear h
 by_cases c3 : (l0.length : Int) = (l1.length : Int)
 ·rw [if_pos c3] at H
  have c3b0 : ((l0.length : Int) == (l1.length : Int)) = true := beq_iff_eq.mpr c3
  have c3b1 : ((l0.length : Int) != (l1.length : Int)) = false := bne_eq_false_iff_eq.mpr c3
  have c3b2 : (l0.length == l1.length) = true := by first | simpa using c3 | (simp at c3 ⊢; omega)
  clear c3
  have H' := jA H
  clear H
  go_enter Try.func53, Try.ntmps53
  go_wp2
  go_loopg [5] k (fun kq v5 w' => ∃ (x5_1 : Int), v5 = .int .i64 x5_1 ∧ Aside0 (laws_eqArticleS.l0 kq l0 l1 x5_1 = some r) ∧ Aside0 (kq ≤ k) ∧ Aside0 (Below w.heap.size w w'))
  case atStart => exact ⟨(0), zz, H', ⟨Nat.le_refl _⟩, ⟨zb0 HB⟩⟩
  case round =>
   clear H'
   try clear c1
   try clear p2
   try clear c3
   try clear c3b0
   try clear c3b1
   try clear c3b2
   obtain ⟨x5_1, rfl, HA, HK1, HB⟩ := hrel
   cases gk with
   | zero => exact absurd HA.out (by simp [laws_eqArticleS.l0])
   | succ k1 =>
    have H := HA.out
    clear HA
    simp only [laws_eqArticleS.l0] at H
    by_cases c4 : x5_1 < (l0.length : Int)
    ·rw [if_pos c4] at H
     have c4b0 : decide (x5_1 < (l0.length : Int)) = true := jI c4
     clear c4
     by_cases c5 : 0 ≤ x5_1
     ·rw [if_pos c5] at H
      have c5b0 : decide (0 ≤ x5_1) = true := jI c5
      clear c5
      by_cases c6 : x5_1 < (l1.length : Int)
      ·rw [if_pos c6] at H
       have c6b0 : decide (x5_1 < (l1.length : Int)) = true := jI c6
       clear c6
       replace H := jG.mp H
       obtain ⟨t346, A70, H⟩ := H
       replace H : (if t346 = true then (laws_eqArticleS.l0 k1 l0 l1 (wrap64 (x5_1 + 1))) else (some false)) = some r := H
       have A7 := jA A70
       clear A70
       by_cases c8 : t346 = true
       ·subst c8
        rw [if_pos rfl] at H
        have H' := jA H
        clear H
        try go_wp2
        replace HB := jA (jR HB.out)
        have p344 : 0 ≤ (x5_1 : Int) := jB za
        have q344 : x5_1 < (l0.length : Int) := jB za
        obtain ⟨ad344, e344, hx344_0, hx344_1, hx344_2, hx344_3, hx344_4, hx344_5, hx344_6, hx344_7, hx344_8⟩ := at_T65 HR0.out x5_1 p344 q344
        have hw344_8 := hx344_8
        have hw344_7 := hx344_7
        have hw344_6 := hx344_6
        have hw344_5 := hx344_5
        have hw344_4 := hx344_4
        have hw344_3 := hx344_3
        have hw344_2 := hx344_2
        have hw344_1 := hx344_1
        have hw344_0 := hx344_0
        cases e344
        replace hx344_0 := zx HB hx344_0
        replace hx344_1 := zx HB hx344_1
        replace hx344_2 := zx HB hx344_2
        replace hx344_3 := zx HB hx344_3
        replace hx344_4 := zx HB hx344_4
        replace hx344_5 := zx HB hx344_5
        replace hx344_6 := zx HB hx344_6
        replace hx344_7 := zx HB hx344_7
        replace hx344_8 := zx HB hx344_8
        replace p344 := eq_true p344
        replace q344 := eq_true q344
        have p345 : 0 ≤ (x5_1 : Int) := jB za
        have q345 : x5_1 < (l1.length : Int) := jB za
        obtain ⟨ad345, e345, hx345_0, hx345_1, hx345_2, hx345_3, hx345_4, hx345_5, hx345_6, hx345_7, hx345_8⟩ := at_T65 HR1.out x5_1 p345 q345
        have hw345_8 := hx345_8
        have hw345_7 := hx345_7
        have hw345_6 := hx345_6
        have hw345_5 := hx345_5
        have hw345_4 := hx345_4
        have hw345_3 := hx345_3
        have hw345_2 := hx345_2
        have hw345_1 := hx345_1
        have hw345_0 := hx345_0
        cases e345
        replace hx345_0 := zx HB hx345_0
        replace hx345_1 := zx HB hx345_1
        replace hx345_2 := zx HB hx345_2
        replace hx345_3 := zx HB hx345_3
        replace hx345_4 := zx HB hx345_4
        replace hx345_5 := zx HB hx345_5
        replace hx345_6 := zx HB hx345_6
        replace hx345_7 := zx HB hx345_7
        replace hx345_8 := zx HB hx345_8
        replace p345 := eq_true p345
        replace q345 := eq_true q345
        refine start_ (n := 10) (S := fun w' => w'.cell? (ad344.add ((x5_1).toNat * 9)) = some (.string ((rd_T65 l0 x5_1).f0)) ∧ w'.cell? ⟨(ad344.add ((x5_1).toNat * 9)).block, (ad344.add ((x5_1).toNat * 9)).off + 1, none⟩ = some (.int .i64 ((rd_T65 l0 x5_1).f1)) ∧ w'.cell? ⟨(ad344.add ((x5_1).toNat * 9)).block, (ad344.add ((x5_1).toNat * 9)).off + 2, none⟩ = some (.int .i64 ((rd_T65 l0 x5_1).f2)) ∧ w'.cell? ⟨(ad344.add ((x5_1).toNat * 9)).block, (ad344.add ((x5_1).toNat * 9)).off + 3, none⟩ = some (.int .i64 ((rd_T65 l0 x5_1).f3)) ∧ w'.cell? ⟨(ad344.add ((x5_1).toNat * 9)).block, (ad344.add ((x5_1).toNat * 9)).off + 4, none⟩ = some (.int .i64 ((rd_T65 l0 x5_1).f4)) ∧ w'.cell? ⟨(ad344.add ((x5_1).toNat * 9)).block, (ad344.add ((x5_1).toNat * 9)).off + 5, none⟩ = some (.int .i64 ((rd_T65 l0 x5_1).f5)) ∧ w'.cell? ⟨(ad344.add ((x5_1).toNat * 9)).block, (ad344.add ((x5_1).toNat * 9)).off + 6, none⟩ = some (.int .i64 ((rd_T65 l0 x5_1).f6)) ∧ w'.cell? ⟨(ad344.add ((x5_1).toNat * 9)).block, (ad344.add ((x5_1).toNat * 9)).off + 7, none⟩ = some (.int .i64 ((rd_T65 l0 x5_1).f7)) ∧ w'.cell? ⟨(ad344.add ((x5_1).toNat * 9)).block, (ad344.add ((x5_1).toNat * 9)).off + 8, none⟩ = some (.int .i64 ((rd_T65 l0 x5_1).f8)) ∧ w'.cell? (ad345.add ((x5_1).toNat * 9)) = some (.string ((rd_T65 l1 x5_1).f0)) ∧ w'.cell? ⟨(ad345.add ((x5_1).toNat * 9)).block, (ad345.add ((x5_1).toNat * 9)).off + 1, none⟩ = some (.int .i64 ((rd_T65 l1 x5_1).f1)) ∧ w'.cell? ⟨(ad345.add ((x5_1).toNat * 9)).block, (ad345.add ((x5_1).toNat * 9)).off + 2, none⟩ = some (.int .i64 ((rd_T65 l1 x5_1).f2)) ∧ w'.cell? ⟨(ad345.add ((x5_1).toNat * 9)).block, (ad345.add ((x5_1).toNat * 9)).off + 3, none⟩ = some (.int .i64 ((rd_T65 l1 x5_1).f3)) ∧ w'.cell? ⟨(ad345.add ((x5_1).toNat * 9)).block, (ad345.add ((x5_1).toNat * 9)).off + 4, none⟩ = some (.int .i64 ((rd_T65 l1 x5_1).f4)) ∧ w'.cell? ⟨(ad345.add ((x5_1).toNat * 9)).block, (ad345.add ((x5_1).toNat * 9)).off + 5, none⟩ = some (.int .i64 ((rd_T65 l1 x5_1).f5)) ∧ w'.cell? ⟨(ad345.add ((x5_1).toNat * 9)).block, (ad345.add ((x5_1).toNat * 9)).off + 6, none⟩ = some (.int .i64 ((rd_T65 l1 x5_1).f6)) ∧ w'.cell? ⟨(ad345.add ((x5_1).toNat * 9)).block, (ad345.add ((x5_1).toNat * 9)).off + 7, none⟩ = some (.int .i64 ((rd_T65 l1 x5_1).f7)) ∧ w'.cell? ⟨(ad345.add ((x5_1).toNat * 9)).block, (ad345.add ((x5_1).toNat * 9)).off + 8, none⟩ = some (.int .i64 ((rd_T65 l1 x5_1).f8))) (ds := []) m10_0 zr rfl rfl ⟨(zx HB hw344_0), (zx HB hw344_1), (zx HB hw344_2), (zx HB hw344_3), (zx HB hw344_4), (zx HB hw344_5), (zx HB hw344_6), (zx HB hw344_7), (zx HB hw344_8), (zx HB hw345_0), (zx HB hw345_1), (zx HB hw345_2), (zx HB hw345_3), (zx HB hw345_4), (zx HB hw345_5), (zx HB hw345_6), (zx HB hw345_7), (zx HB hw345_8)⟩ (fun hHeld => ?_); refine with_tabW laws_eqArticleS.tab6 laws_eqArticleS.bits6 (fun HT_ HW_ => ?_)
        generalize wr.drew = w9 at HB hx344_0 hx344_1 hx344_2 hx344_3 hx344_4 hx344_5 hx344_6 hx344_7 hx344_8 hx345_0 hx345_1 hx345_2 hx345_3 hx345_4 hx345_5 hx345_6 hx345_7 hx345_8 hHeld ⊢
        refine zp HT_ 0 17 m10_200 ?_
        refine zp HT_ 1 18 m10_300 ?_
        refine zp HT_ 2 19 m10_380 ?_
        refine zp HT_ 4 21 m10_3a0 ?_
        refine zp HT_ 5 22 m10_3b0 ?_
        refine zp HT_ 6 23 m10_3b8 ?_
        refine zt18 HT_ HW_ hHeld 3 20 m10_3f8 ?_
        refine zt18 HT_ HW_ hHeld 7 24 m10_3fc ?_
        refine one_ (i := 8) (N := some 25) m10_3fe rfl rfl (one_of HT_.out zr) (by decide) (fun K hK => ?_)
        refine goes_ Try.func82 zr rfl #[.agg #[.string ((rd_T65 l0 x5_1).f0), .int .i64 ((rd_T65 l0 x5_1).f1), .int .i64 ((rd_T65 l0 x5_1).f2), .int .i64 ((rd_T65 l0 x5_1).f3), .int .i64 ((rd_T65 l0 x5_1).f4), .int .i64 ((rd_T65 l0 x5_1).f5), .int .i64 ((rd_T65 l0 x5_1).f6), .int .i64 ((rd_T65 l0 x5_1).f7), .int .i64 ((rd_T65 l0 x5_1).f8)], .agg #[.string ((rd_T65 l1 x5_1).f0), .int .i64 ((rd_T65 l1 x5_1).f1), .int .i64 ((rd_T65 l1 x5_1).f2), .int .i64 ((rd_T65 l1 x5_1).f3), .int .i64 ((rd_T65 l1 x5_1).f4), .int .i64 ((rd_T65 l1 x5_1).f5), .int .i64 ((rd_T65 l1 x5_1).f6), .int .i64 ((rd_T65 l1 x5_1).f7), .int .i64 ((rd_T65 l1 x5_1).f8)]] (by rfl) rfl rfl zm ?_
        with_reducible refine (laws_eqArticle.calls ((rd_T65 l0 x5_1).f0) ((rd_T65 l0 x5_1).f1) ((rd_T65 l0 x5_1).f2) ((rd_T65 l0 x5_1).f3) ((rd_T65 l0 x5_1).f4) ((rd_T65 l0 x5_1).f5) ((rd_T65 l0 x5_1).f6) ((rd_T65 l0 x5_1).f7) ((rd_T65 l0 x5_1).f8) ((rd_T65 l1 x5_1).f0) ((rd_T65 l1 x5_1).f1) ((rd_T65 l1 x5_1).f2) ((rd_T65 l1 x5_1).f3) ((rd_T65 l1 x5_1).f4) ((rd_T65 l1 x5_1).f5) ((rd_T65 l1 x5_1).f6) ((rd_T65 l1 x5_1).f7) ((rd_T65 l1 x5_1).f8) true _ A7.out).mono ?_
        rintro e w10 ⟨rfl, hb⟩
        refine ⟨_, rfl, ?_⟩
        replace HB := zS0 HB hb
        (try clear hb)
        (try clear hb2)
        (try clear hk)
        (try clear hi)
        refine hK.out _ _ ⟨(zx HB hw344_0), (zx HB hw344_1), (zx HB hw344_2), (zx HB hw344_3), (zx HB hw344_4), (zx HB hw344_5), (zx HB hw344_6), (zx HB hw344_7), (zx HB hw344_8), (zx HB hw345_0), (zx HB hw345_1), (zx HB hw345_2), (zx HB hw345_3), (zx HB hw345_4), (zx HB hw345_5), (zx HB hw345_6), (zx HB hw345_7), (zx HB hw345_8)⟩ (fun hHeld => ?_)
        clear hK K
        refine norm_ (a' := ?_) ?_ ?_
        rotate_left
        ·show Act.put _ (some 25) _ = _
         simp only [Act.put, jC, jE, jF, i64_w, i32_w]
         rfl
        refine zp HT_ 9 26 m10_3ff ?_
        refine done_ (done_of HT_.out zr) ?_
        try go_wp2
        go_roundg k1
        case measure => have := HK1.out; omega
        case rel => exact ⟨(wrap64 (x5_1 + 1)), zz, H', ⟨by have := HK1.out; omega⟩, ⟨zb0 HB⟩⟩
       ·replace c8 := Bool.eq_false_iff.mpr c8
        subst c8
        rw [if_neg zfalse] at H
        obtain rfl := jH H
        try go_wp2
        replace HB := jA (jR HB.out)
        have p344 : 0 ≤ (x5_1 : Int) := jB za
        have q344 : x5_1 < (l0.length : Int) := jB za
        obtain ⟨ad344, e344, hx344_0, hx344_1, hx344_2, hx344_3, hx344_4, hx344_5, hx344_6, hx344_7, hx344_8⟩ := at_T65 HR0.out x5_1 p344 q344
        have hw344_8 := hx344_8
        have hw344_7 := hx344_7
        have hw344_6 := hx344_6
        have hw344_5 := hx344_5
        have hw344_4 := hx344_4
        have hw344_3 := hx344_3
        have hw344_2 := hx344_2
        have hw344_1 := hx344_1
        have hw344_0 := hx344_0
        cases e344
        replace hx344_0 := zx HB hx344_0
        replace hx344_1 := zx HB hx344_1
        replace hx344_2 := zx HB hx344_2
        replace hx344_3 := zx HB hx344_3
        replace hx344_4 := zx HB hx344_4
        replace hx344_5 := zx HB hx344_5
        replace hx344_6 := zx HB hx344_6
        replace hx344_7 := zx HB hx344_7
        replace hx344_8 := zx HB hx344_8
        replace p344 := eq_true p344
        replace q344 := eq_true q344
        have p345 : 0 ≤ (x5_1 : Int) := jB za
        have q345 : x5_1 < (l1.length : Int) := jB za
        obtain ⟨ad345, e345, hx345_0, hx345_1, hx345_2, hx345_3, hx345_4, hx345_5, hx345_6, hx345_7, hx345_8⟩ := at_T65 HR1.out x5_1 p345 q345
        have hw345_8 := hx345_8
        have hw345_7 := hx345_7
        have hw345_6 := hx345_6
        have hw345_5 := hx345_5
        have hw345_4 := hx345_4
        have hw345_3 := hx345_3
        have hw345_2 := hx345_2
        have hw345_1 := hx345_1
        have hw345_0 := hx345_0
        cases e345
        replace hx345_0 := zx HB hx345_0
        replace hx345_1 := zx HB hx345_1
        replace hx345_2 := zx HB hx345_2
        replace hx345_3 := zx HB hx345_3
        replace hx345_4 := zx HB hx345_4
        replace hx345_5 := zx HB hx345_5
        replace hx345_6 := zx HB hx345_6
        replace hx345_7 := zx HB hx345_7
        replace hx345_8 := zx HB hx345_8
        replace p345 := eq_true p345
        replace q345 := eq_true q345
        refine start_ (n := 10) (S := fun w' => w'.cell? (ad344.add ((x5_1).toNat * 9)) = some (.string ((rd_T65 l0 x5_1).f0)) ∧ w'.cell? ⟨(ad344.add ((x5_1).toNat * 9)).block, (ad344.add ((x5_1).toNat * 9)).off + 1, none⟩ = some (.int .i64 ((rd_T65 l0 x5_1).f1)) ∧ w'.cell? ⟨(ad344.add ((x5_1).toNat * 9)).block, (ad344.add ((x5_1).toNat * 9)).off + 2, none⟩ = some (.int .i64 ((rd_T65 l0 x5_1).f2)) ∧ w'.cell? ⟨(ad344.add ((x5_1).toNat * 9)).block, (ad344.add ((x5_1).toNat * 9)).off + 3, none⟩ = some (.int .i64 ((rd_T65 l0 x5_1).f3)) ∧ w'.cell? ⟨(ad344.add ((x5_1).toNat * 9)).block, (ad344.add ((x5_1).toNat * 9)).off + 4, none⟩ = some (.int .i64 ((rd_T65 l0 x5_1).f4)) ∧ w'.cell? ⟨(ad344.add ((x5_1).toNat * 9)).block, (ad344.add ((x5_1).toNat * 9)).off + 5, none⟩ = some (.int .i64 ((rd_T65 l0 x5_1).f5)) ∧ w'.cell? ⟨(ad344.add ((x5_1).toNat * 9)).block, (ad344.add ((x5_1).toNat * 9)).off + 6, none⟩ = some (.int .i64 ((rd_T65 l0 x5_1).f6)) ∧ w'.cell? ⟨(ad344.add ((x5_1).toNat * 9)).block, (ad344.add ((x5_1).toNat * 9)).off + 7, none⟩ = some (.int .i64 ((rd_T65 l0 x5_1).f7)) ∧ w'.cell? ⟨(ad344.add ((x5_1).toNat * 9)).block, (ad344.add ((x5_1).toNat * 9)).off + 8, none⟩ = some (.int .i64 ((rd_T65 l0 x5_1).f8)) ∧ w'.cell? (ad345.add ((x5_1).toNat * 9)) = some (.string ((rd_T65 l1 x5_1).f0)) ∧ w'.cell? ⟨(ad345.add ((x5_1).toNat * 9)).block, (ad345.add ((x5_1).toNat * 9)).off + 1, none⟩ = some (.int .i64 ((rd_T65 l1 x5_1).f1)) ∧ w'.cell? ⟨(ad345.add ((x5_1).toNat * 9)).block, (ad345.add ((x5_1).toNat * 9)).off + 2, none⟩ = some (.int .i64 ((rd_T65 l1 x5_1).f2)) ∧ w'.cell? ⟨(ad345.add ((x5_1).toNat * 9)).block, (ad345.add ((x5_1).toNat * 9)).off + 3, none⟩ = some (.int .i64 ((rd_T65 l1 x5_1).f3)) ∧ w'.cell? ⟨(ad345.add ((x5_1).toNat * 9)).block, (ad345.add ((x5_1).toNat * 9)).off + 4, none⟩ = some (.int .i64 ((rd_T65 l1 x5_1).f4)) ∧ w'.cell? ⟨(ad345.add ((x5_1).toNat * 9)).block, (ad345.add ((x5_1).toNat * 9)).off + 5, none⟩ = some (.int .i64 ((rd_T65 l1 x5_1).f5)) ∧ w'.cell? ⟨(ad345.add ((x5_1).toNat * 9)).block, (ad345.add ((x5_1).toNat * 9)).off + 6, none⟩ = some (.int .i64 ((rd_T65 l1 x5_1).f6)) ∧ w'.cell? ⟨(ad345.add ((x5_1).toNat * 9)).block, (ad345.add ((x5_1).toNat * 9)).off + 7, none⟩ = some (.int .i64 ((rd_T65 l1 x5_1).f7)) ∧ w'.cell? ⟨(ad345.add ((x5_1).toNat * 9)).block, (ad345.add ((x5_1).toNat * 9)).off + 8, none⟩ = some (.int .i64 ((rd_T65 l1 x5_1).f8))) (ds := []) m10_0 zr rfl rfl ⟨(zx HB hw344_0), (zx HB hw344_1), (zx HB hw344_2), (zx HB hw344_3), (zx HB hw344_4), (zx HB hw344_5), (zx HB hw344_6), (zx HB hw344_7), (zx HB hw344_8), (zx HB hw345_0), (zx HB hw345_1), (zx HB hw345_2), (zx HB hw345_3), (zx HB hw345_4), (zx HB hw345_5), (zx HB hw345_6), (zx HB hw345_7), (zx HB hw345_8)⟩ (fun hHeld => ?_); refine with_tabW laws_eqArticleS.tab6 laws_eqArticleS.bits6 (fun HT_ HW_ => ?_)
        generalize wr.drew = w11 at HB hx344_0 hx344_1 hx344_2 hx344_3 hx344_4 hx344_5 hx344_6 hx344_7 hx344_8 hx345_0 hx345_1 hx345_2 hx345_3 hx345_4 hx345_5 hx345_6 hx345_7 hx345_8 hHeld ⊢
        refine zp HT_ 0 17 m10_200 ?_
        refine zp HT_ 1 18 m10_300 ?_
        refine zp HT_ 2 19 m10_380 ?_
        refine zp HT_ 4 21 m10_3a0 ?_
        refine zp HT_ 5 22 m10_3b0 ?_
        refine zp HT_ 6 23 m10_3b8 ?_
        refine zt18 HT_ HW_ hHeld 3 20 m10_3f8 ?_
        refine zt18 HT_ HW_ hHeld 7 24 m10_3fc ?_
        refine one_ (i := 8) (N := some 25) m10_3fe rfl rfl (one_of HT_.out zr) (by decide) (fun K hK => ?_)
        refine goes_ Try.func82 zr rfl #[.agg #[.string ((rd_T65 l0 x5_1).f0), .int .i64 ((rd_T65 l0 x5_1).f1), .int .i64 ((rd_T65 l0 x5_1).f2), .int .i64 ((rd_T65 l0 x5_1).f3), .int .i64 ((rd_T65 l0 x5_1).f4), .int .i64 ((rd_T65 l0 x5_1).f5), .int .i64 ((rd_T65 l0 x5_1).f6), .int .i64 ((rd_T65 l0 x5_1).f7), .int .i64 ((rd_T65 l0 x5_1).f8)], .agg #[.string ((rd_T65 l1 x5_1).f0), .int .i64 ((rd_T65 l1 x5_1).f1), .int .i64 ((rd_T65 l1 x5_1).f2), .int .i64 ((rd_T65 l1 x5_1).f3), .int .i64 ((rd_T65 l1 x5_1).f4), .int .i64 ((rd_T65 l1 x5_1).f5), .int .i64 ((rd_T65 l1 x5_1).f6), .int .i64 ((rd_T65 l1 x5_1).f7), .int .i64 ((rd_T65 l1 x5_1).f8)]] (by rfl) rfl rfl zm ?_
        with_reducible refine (laws_eqArticle.calls ((rd_T65 l0 x5_1).f0) ((rd_T65 l0 x5_1).f1) ((rd_T65 l0 x5_1).f2) ((rd_T65 l0 x5_1).f3) ((rd_T65 l0 x5_1).f4) ((rd_T65 l0 x5_1).f5) ((rd_T65 l0 x5_1).f6) ((rd_T65 l0 x5_1).f7) ((rd_T65 l0 x5_1).f8) ((rd_T65 l1 x5_1).f0) ((rd_T65 l1 x5_1).f1) ((rd_T65 l1 x5_1).f2) ((rd_T65 l1 x5_1).f3) ((rd_T65 l1 x5_1).f4) ((rd_T65 l1 x5_1).f5) ((rd_T65 l1 x5_1).f6) ((rd_T65 l1 x5_1).f7) ((rd_T65 l1 x5_1).f8) false _ A7.out).mono ?_
        rintro e w12 ⟨rfl, hb⟩
        refine ⟨_, rfl, ?_⟩
        replace HB := zS0 HB hb
        (try clear hb)
        (try clear hb2)
        (try clear hk)
        (try clear hi)
        refine hK.out _ _ ⟨(zx HB hw344_0), (zx HB hw344_1), (zx HB hw344_2), (zx HB hw344_3), (zx HB hw344_4), (zx HB hw344_5), (zx HB hw344_6), (zx HB hw344_7), (zx HB hw344_8), (zx HB hw345_0), (zx HB hw345_1), (zx HB hw345_2), (zx HB hw345_3), (zx HB hw345_4), (zx HB hw345_5), (zx HB hw345_6), (zx HB hw345_7), (zx HB hw345_8)⟩ (fun hHeld => ?_)
        clear hK K
        refine norm_ (a' := ?_) ?_ ?_
        rotate_left
        ·show Act.put _ (some 25) _ = _
         simp only [Act.put, jC, jE, jF, i64_w, i32_w]
         rfl
        refine zp HT_ 9 26 m10_3ff ?_
        refine done_ (done_of HT_.out zr) ?_
        try go_wp2
        go_ret
        exact ⟨ze, zb0 HB⟩
      ·rw [if_neg c6] at H
       exact absurd H (by simp)
     ·rw [if_neg c5] at H
      exact absurd H (by simp)
    ·rw [if_neg c4] at H
     have c4b0 : decide (x5_1 < (l0.length : Int)) = false := jM c4
     clear c4
     obtain rfl := jH H
     go_wp2
     go_ret
     exact ⟨ze, zb0 HB⟩
 ·rw [if_neg c3] at H
  have c3b0 : ((l0.length : Int) == (l1.length : Int)) = false := beq_eq_false_iff_ne.mpr c3
  have c3b1 : ((l0.length : Int) != (l1.length : Int)) = true := bne_iff_ne.mpr c3
  have c3b2 : (l0.length == l1.length) = false := by first | simpa using c3 | (simp at c3 ⊢; omega)
  obtain rfl := jH H
  go_enter Try.func53, Try.ntmps53
  go_wp2
  go_ret
  exact ⟨ze, zb0 HB⟩

/-! ### laws_markText: function 55 -/
def laws_markText.l0 : Nat → Int → ByteArray → Option (ByteArray)
 | 0, _, _ => none
 | k + 1, x0, x3 => if x0 > 0 then ((some (([(wrap64 (48 + (Int.tmod x0 10))) % 256] : List Int) : List Int)).bind fun y364 => (if (strOfNums y364).size + x3.size ≤ 9223372036854775807 then (laws_markText.l0 k (wrap64 (Int.tdiv x0 10)) ((strOfNums y364) ++ x3)) else (none))) else (if 1 + x3.size ≤ 9223372036854775807 then (some ((⟨#[109]⟩ : ByteArray) ++ x3)) else (none))
def laws_markText.f (k : Nat) (a0 : Int) : Option (ByteArray) := if a0 ≤ 0 then (some (⟨#[109, 48]⟩ : ByteArray)) else (laws_markText.l0 k a0 (⟨#[]⟩ : ByteArray))
theorem laws_markText.mono_l : ∀ k, (∀ y0 y1, LeO (laws_markText.l0 k y0 y1) (laws_markText.l0 (k + 1) y0 y1))
 | 0 => fun _ _ r h => by simp [laws_markText.l0] at h
 | k + 1 => by
  have ih0 := laws_markText.mono_l k
  ·intro y0 y1
   unfold laws_markText.l0
   repeat' first
   | (with_reducible exact ih0 _ _)
   | (with_reducible exact LeO.refl _)
   | (with_reducible exact LeO.none _)
   | (with_reducible refine LeO.ite ?_ ?_)
   | (with_reducible refine LeO.bind ?_ (fun _ => ?_))
   | exact ih0 _ _
   | exact LeO.none _
   | refine LeO.ite ?_ ?_
   | refine LeO.bind ?_ (fun _ => ?_)
theorem laws_markText.mono : ∀ a0 k, LeO (laws_markText.f k a0) (laws_markText.f (k + 1) a0) := by
 intro a0 k
 have ih0 := laws_markText.mono_l k
 unfold laws_markText.f
 repeat' first
   | (with_reducible exact ih0 _ _)
   | (with_reducible exact LeO.refl _)
   | (with_reducible exact LeO.none _)
   | (with_reducible refine LeO.ite ?_ ?_)
   | (with_reducible refine LeO.bind ?_ (fun _ => ?_))
   | exact ih0 _ _
   | exact LeO.none _
   | refine LeO.ite ?_ ?_
   | refine LeO.bind ?_ (fun _ => ?_)
set_option maxHeartbeats 8000000 in
set_option maxRecDepth 100000 in
theorem laws_markText.calls (k : Nat) (a0 : Int) (r : ByteArray) (w : World) (h : laws_markText.f k a0 = some r) :
  Calls Try.prog 55 #[.int .i64 a0] w fun e w' => e = .returned (.string r) ∧ Below w.heap.size w w' := by
 have HB := jA (Below.refl w.heap.size w)
 have H := h
 unfold laws_markText.f at H
 clear h
 by_cases c2 : a0 ≤ 0
 ·rw [if_pos c2] at H
  have c2b0 : decide (a0 ≤ 0) = true := jI c2
  clear c2
  obtain rfl := jH H
  go_enter Try.func55, Try.ntmps55
  go_wp2
  go_ret
  exact ⟨ze, zb0 HB⟩
 ·rw [if_neg c2] at H
  have c2b0 : decide (a0 ≤ 0) = false := jM c2
  clear c2
  have H' := jA H
  clear H
  go_enter Try.func55, Try.ntmps55
  go_wp2
  go_loopg [0, 3] k (fun kq v0 v3 w' => ∃ (x0_1 : Int) (x3_1 : ByteArray), v0 = .int .i64 x0_1 ∧ v3 = .string x3_1 ∧ Aside0 (laws_markText.l0 kq x0_1 x3_1 = some r) ∧ Aside0 (kq ≤ k) ∧ Aside0 (Below w.heap.size w w'))
  case atStart => exact ⟨(a0), ((⟨#[]⟩ : ByteArray)), zz, zz, H', ⟨Nat.le_refl _⟩, ⟨zb0 HB⟩⟩
  case round =>
   clear H'
   try clear c2
   try clear c2b0
   try clear p2
   obtain ⟨x0_1, x3_1, rfl, rfl, HA, HK1, HB⟩ := hrel
   cases gk with
   | zero => exact absurd HA.out (by simp [laws_markText.l0])
   | succ k1 =>
    have H := HA.out
    clear HA
    simp only [laws_markText.l0] at H
    by_cases c3 : x0_1 > 0
    ·rw [if_pos c3] at H
     have c3b0 : decide (0 < x0_1) = true := jI c3
     clear c3
     obtain ⟨y364, hy364⟩ : ∃ y_ : List Int, y_ = (([(wrap64 (48 + (Int.tmod x0_1 10))) % 256] : List Int)) := ⟨_, rfl⟩
     replace H : (if (strOfNums y364).size + x3_1.size ≤ 9223372036854775807 then (laws_markText.l0 k1 (wrap64 (Int.tdiv x0_1 10)) ((strOfNums y364) ++ x3_1)) else (none)) = some r := by first | (rw [hy364]; with_reducible exact H) | (have H2_ := (Option.bind_some _ _).symm.trans H; rw [hy364]; with_reducible exact H2_) | (have H2_ := (Option.bind_some _ _).symm.trans H; with_reducible exact H2_) | with_reducible exact H | (rw [hy364]; exact H) | exact H
     have Ny364 := jA hy364
     clear hy364
     by_cases c4 : (strOfNums y364).size + x3_1.size ≤ 9223372036854775807
     ·rw [if_pos c4] at H
      have c4b0 := eq_true c4
      have c4b1 : decide ((strOfNums y364).size + x3_1.size ≤ 9223372036854775807) = true := jI c4
      try have c4b2 : (9223372036854775807 < (strOfNums y364).size + x3_1.size) = False := eq_false (Nat.not_lt.2 c4)
      have H' := jA H
      clear H
      go_wp2_with (first | ((with_reducible refine jJ (N := 12) rfl ?_); refine Kd.R_lit (Kd.int .u8) _ 5 ?hg (N := 12) ?hd (xs := ([(wrap64 (48 + (Int.tmod x0_1 10))) % 256] : List Int)) (inner := [.int .u8 ((wrap64 (48 + (Int.tmod x0_1 10))) % 256)]) (ok := fun _ => True) (okp := fun _ => True) ?hr ?hp (fun _ hk => hk) trivial (Below.refl _ _) (Nat.le_refl _) (by simp) ?_; (case hd => rfl); (case hg => rfl); (case hr => first | (go_simp; done) | (go_simp; rfl)); (case hp => exact (Reps.one (show Kd.M (Kd.int .u8) _ _ _ ((wrap64 (48 + (Int.tmod x0_1 10))) % 256) [.int .u8 ((wrap64 (48 + (Int.tmod x0_1 10))) % 256)] from rfl) (Reps.none _ _))); intro v365 w5 ho6 hb hg_ hnew_; clear hg_ hnew_; (first | rw [← Ny364.out] at ho6 | (simp only [Int.reduceToNat] at ho6; rw [← Ny364.out] at ho6)); have HO366 := jA (Kd.R_lower ho6 (below_size (zb0 HB))); replace HB := zS0 HB hb; clear hb ho6; have hcv7 := own_string (P := Try.prog) Try.underlying50 Try.underlying5 Try.underlying9 (Kd.own_of_R HO366.out)))
      go_roundg k1
      case measure => have := HK1.out; omega
      case rel => exact ⟨(wrap64 (Int.tdiv x0_1 10)), ((strOfNums y364) ++ x3_1), zz, zz, H', ⟨by have := HK1.out; omega⟩, ⟨zb0 HB⟩⟩
     ·rw [if_neg c4] at H
      exact absurd H (by simp)
    ·rw [if_neg c3] at H
     have c3b0 : decide (0 < x0_1) = false := jM c3
     clear c3
     by_cases c8 : 1 + x3_1.size ≤ 9223372036854775807
     ·rw [if_pos c8] at H
      have c8b0 := eq_true c8
      have c8b1 : decide (1 + x3_1.size ≤ 9223372036854775807) = true := jI c8
      try have c8b2 : (9223372036854775807 < 1 + x3_1.size) = False := eq_false (Nat.not_lt.2 c8)
      obtain rfl := jH H
      go_wp2
      go_ret
      exact ⟨ze, zb0 HB⟩
     ·rw [if_neg c8] at H
      exact absurd H (by simp)

end Go.Proofs.Ytdgglhfnlljmeaa.PFnExactMovePieces
