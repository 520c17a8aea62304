/- Functions and contracts that FnExactRoomFor reaches (4 of 15). -/
import Derived.Test.YtdgglhfnlljmeaaQFnExactRoomForx2
namespace Go.Proofs.Ytdgglhfnlljmeaa.PFnExactRoomFor
open Go.RowKit Go.Proofs.YtdgglhfnlljmeaaW.PrintWords Go.Proofs.YtdgglhfnlljmeaaW.PrintLast Go.Proofs.YtdgglhfnlljmeaaW.PrintMore
attribute [local go_sem] max2_int min2_int max_two min_two max_three min_three max_four min_four   -- for this text's walks alone
set_option linter.unusedVariables false
set_option linter.unusedSimpArgs false
open Go.Proofs.YtdgglhfnlljmeaaX

/-! ### laws_eqArticleS: function 53 -/
def laws_eqArticleS.l0 : Nat → List (S65) → List (S65) → Int → Option (Bool)
 | 0, _, _, _ => none
 | k + 1, x0, x1, x5 => if x5 < (x0.length : Int) then (if 0 ≤ x5 then (if x5 < (x1.length : Int) then ((laws_eqArticle.f ((rd_T65 x0 x5).f0) ((rd_T65 x0 x5).f1) ((rd_T65 x0 x5).f2) ((rd_T65 x0 x5).f3) ((rd_T65 x0 x5).f4) ((rd_T65 x0 x5).f5) ((rd_T65 x0 x5).f6) ((rd_T65 x0 x5).f7) ((rd_T65 x0 x5).f8) ((rd_T65 x1 x5).f0) ((rd_T65 x1 x5).f1) ((rd_T65 x1 x5).f2) ((rd_T65 x1 x5).f3) ((rd_T65 x1 x5).f4) ((rd_T65 x1 x5).f5) ((rd_T65 x1 x5).f6) ((rd_T65 x1 x5).f7) ((rd_T65 x1 x5).f8)).bind fun t158 => (if t158 = true then (laws_eqArticleS.l0 k x0 x1 (wrap64 (x5 + 1))) else (some false))) else (none)) else (none)) else (some true)
def laws_eqArticleS.f (k : Nat) (l0 : List (S65)) (l1 : List (S65)) : Option (Bool) := if (l0.length : Int) = (l1.length : Int) then (laws_eqArticleS.l0 k l0 l1 0) else (some false)
theorem laws_eqArticleS.mono_l : ∀ k, (∀ y0 y1 y2, LeO (laws_eqArticleS.l0 k y0 y1 y2) (laws_eqArticleS.l0 (k + 1) y0 y1 y2))
 | 0 => fun _ _ _ r h => by simp [laws_eqArticleS.l0] at h
 | k + 1 => by
  have ih0 := laws_eqArticleS.mono_l k
  ·intro y0 y1 y2
   unfold laws_eqArticleS.l0
   repeat' first
   | (with_reducible exact ih0 _ _ _)
   | (with_reducible exact LeO.refl _)
   | (with_reducible exact LeO.none _)
   | (with_reducible refine LeO.ite ?_ ?_)
   | (with_reducible refine LeO.bind ?_ (fun _ => ?_))
   | exact ih0 _ _ _
   | exact LeO.none _
   | refine LeO.ite ?_ ?_
   | refine LeO.bind ?_ (fun _ => ?_)
theorem laws_eqArticleS.mono : ∀ a0 a1 k, LeO (laws_eqArticleS.f k a0 a1) (laws_eqArticleS.f (k + 1) a0 a1) := by
 intro a0 a1 k
 have ih0 := laws_eqArticleS.mono_l k
 unfold laws_eqArticleS.f
 repeat' first
   | (with_reducible exact ih0 _ _ _)
   | (with_reducible exact LeO.refl _)
   | (with_reducible exact LeO.none _)
   | (with_reducible refine LeO.ite ?_ ?_)
   | (with_reducible refine LeO.bind ?_ (fun _ => ?_))
   | exact ih0 _ _ _
   | exact LeO.none _
   | refine LeO.ite ?_ ?_
   | refine LeO.bind ?_ (fun _ => ?_)
def laws_eqArticleS.T6 : Bool × List (List Nat × List Nat) := (true, [([], []), ([], []), ([0, 1], [0, 1]), ([2], [2]), ([], []), ([], []), ([4, 5], [4, 5]), ([6], [6]), ([3, 7], [3, 7]), ([8], [8])])
def laws_eqArticleS.B6 : List Nat := [0, 0, 3, 7, 0, 0, 48, 112, 255, 511]
theorem laws_eqArticleS.tab6 : rtab .any (opsOf Try.f53 6) = laws_eqArticleS.T6 := by kernel_rfl
theorem laws_eqArticleS.bits6 : waitsOk laws_eqArticleS.T6.2 laws_eqArticleS.B6 = true := by kernel_rfl
set_option maxHeartbeats 8000000 in
set_option maxRecDepth 100000 in
theorem laws_eqArticleS.calls (k : Nat) (A0 : Option Addr) (c0 : Nat) (l0 : List (S65)) (A1 : Option Addr) (c1 : Nat) (l1 : List (S65)) (r : Bool) (w : World) (hr0 : Kd.C k65 w A0 l0.length l0) (hc0 : l0.length ≤ c0) (hr1 : Kd.C k65 w A1 l1.length l1) (hc1 : l1.length ≤ c1) (h : laws_eqArticleS.f k l0 l1 = some r) :
  Calls Try.prog 53 #[.slice A0 l0.length c0, .slice A1 l1.length c1] w fun e w' => e = .returned (.bool r) ∧ Below w.heap.size w w' := by
 have hu65 := Try.underlying65
 have HR0 := jB hr0
 have HC0 := jB hc0
 clear hr0 hc0
 have HR1 := jB hr1
 have HC1 := jB hc1
 clear hr1 hc1
 have HB := jB (Below.refl w.heap.size w)
 have H : (if (l0.length : Int) = (l1.length : Int) then (laws_eqArticleS.l0 k l0 l1 0) else (some false)) = some r := h
 clear h
 by_cases c3 : (l0.length : Int) = (l1.length : Int)
 ·rw [if_pos c3] at H
  have c3b0 : ((l0.length : Int) == (l1.length : Int)) = true := beq_iff_eq.mpr c3
  have c3b1 : ((l0.length : Int) != (l1.length : Int)) = false := bne_eq_false_iff_eq.mpr c3
  have c3b2 : (l0.length == l1.length) = true := by first | simpa using c3 | (simp at c3 ⊢; omega)
  clear c3
  have H' := jB H
  clear H
  go_enter Try.func53, Try.ntmps53
  go_wp2
  go_loopg [5] k (fun kq v5 w' => ∃ (x5_1 : Int), v5 = .int .i64 x5_1 ∧ Aside0 (laws_eqArticleS.l0 kq l0 l1 x5_1 = some r) ∧ Aside0 (kq ≤ k) ∧ Aside0 (Below w.heap.size w w'))
  case atStart => exact ⟨(0), zz, H', ⟨Nat.le_refl _⟩, ⟨zb0 HB⟩⟩
  case round =>
   clear H'
   try clear c1
   try clear p2
   try clear c3
   try clear c3b0
   try clear c3b1
   try clear c3b2
   obtain ⟨x5_1, rfl, HA, HK1, HB⟩ := hrel
   cases gk with
   | zero => exact absurd HA.out (by simp [laws_eqArticleS.l0])
   | succ k1 =>
    have H := HA.out
    clear HA
    simp only [laws_eqArticleS.l0] at H
    by_cases c4 : x5_1 < (l0.length : Int)
    ·rw [if_pos c4] at H
     have c4b0 : decide (x5_1 < (l0.length : Int)) = true := jR c4
     clear c4
     by_cases c5 : 0 ≤ x5_1
     ·rw [if_pos c5] at H
      have c5b0 : decide (0 ≤ x5_1) = true := jR c5
      clear c5
      by_cases c6 : x5_1 < (l1.length : Int)
      ·rw [if_pos c6] at H
       have c6b0 : decide (x5_1 < (l1.length : Int)) = true := jR c6
       clear c6
       replace H := jP.mp H
       obtain ⟨t158, A70, H⟩ := H
       replace H : (if t158 = true then (laws_eqArticleS.l0 k1 l0 l1 (wrap64 (x5_1 + 1))) else (some false)) = some r := H
       have A7 := jB A70
       clear A70
       by_cases c8 : t158 = true
       ·subst c8
        have H1 : (laws_eqArticleS.l0 k1 l0 l1 (wrap64 (x5_1 + 1))) = some r := by rw [if_pos rfl] at H; exact H
        clear H
        have H := H1
        clear H1
        have H' := jB H
        clear H
        try go_wp2
        have n0_ := jB (below_drew1 HB.out)
        clear HB
        have HB := n0_
        clear n0_
        have p156 : 0 ≤ (x5_1 : Int) := jE za
        have q156 : x5_1 < (l0.length : Int) := jE za
        obtain ⟨ad156, e156, hx156_0, hx156_1, hx156_2, hx156_3, hx156_4, hx156_5, hx156_6, hx156_7, hx156_8⟩ := at_T65 HR0.out x5_1 p156 q156
        have hw156_8 := hx156_8
        have hw156_7 := hx156_7
        have hw156_6 := hx156_6
        have hw156_5 := hx156_5
        have hw156_4 := hx156_4
        have hw156_3 := hx156_3
        have hw156_2 := hx156_2
        have hw156_1 := hx156_1
        have hw156_0 := hx156_0
        cases e156
        replace hx156_0 := (HB.out.cell (jA w _ hx156_0)).trans hx156_0
        replace hx156_1 := (HB.out.cell (jA w _ hx156_1)).trans hx156_1
        replace hx156_2 := (HB.out.cell (jA w _ hx156_2)).trans hx156_2
        replace hx156_3 := (HB.out.cell (jA w _ hx156_3)).trans hx156_3
        replace hx156_4 := (HB.out.cell (jA w _ hx156_4)).trans hx156_4
        replace hx156_5 := (HB.out.cell (jA w _ hx156_5)).trans hx156_5
        replace hx156_6 := (HB.out.cell (jA w _ hx156_6)).trans hx156_6
        replace hx156_7 := (HB.out.cell (jA w _ hx156_7)).trans hx156_7
        replace hx156_8 := (HB.out.cell (jA w _ hx156_8)).trans hx156_8
        replace p156 := eq_true p156
        replace q156 := eq_true q156
        have p157 : 0 ≤ (x5_1 : Int) := jE za
        have q157 : x5_1 < (l1.length : Int) := jE za
        obtain ⟨ad157, e157, hx157_0, hx157_1, hx157_2, hx157_3, hx157_4, hx157_5, hx157_6, hx157_7, hx157_8⟩ := at_T65 HR1.out x5_1 p157 q157
        have hw157_8 := hx157_8
        have hw157_7 := hx157_7
        have hw157_6 := hx157_6
        have hw157_5 := hx157_5
        have hw157_4 := hx157_4
        have hw157_3 := hx157_3
        have hw157_2 := hx157_2
        have hw157_1 := hx157_1
        have hw157_0 := hx157_0
        cases e157
        replace hx157_0 := (HB.out.cell (jA w _ hx157_0)).trans hx157_0
        replace hx157_1 := (HB.out.cell (jA w _ hx157_1)).trans hx157_1
        replace hx157_2 := (HB.out.cell (jA w _ hx157_2)).trans hx157_2
        replace hx157_3 := (HB.out.cell (jA w _ hx157_3)).trans hx157_3
        replace hx157_4 := (HB.out.cell (jA w _ hx157_4)).trans hx157_4
        replace hx157_5 := (HB.out.cell (jA w _ hx157_5)).trans hx157_5
        replace hx157_6 := (HB.out.cell (jA w _ hx157_6)).trans hx157_6
        replace hx157_7 := (HB.out.cell (jA w _ hx157_7)).trans hx157_7
        replace hx157_8 := (HB.out.cell (jA w _ hx157_8)).trans hx157_8
        replace p157 := eq_true p157
        replace q157 := eq_true q157
        refine start_ (n := 10) (S := fun w' => w'.cell? (ad156.add ((x5_1).toNat * 9)) = some (.string ((rd_T65 l0 x5_1).f0)) ∧ w'.cell? ⟨(ad156.add ((x5_1).toNat * 9)).block, (ad156.add ((x5_1).toNat * 9)).off + 1, none⟩ = some (.int .i64 ((rd_T65 l0 x5_1).f1)) ∧ w'.cell? ⟨(ad156.add ((x5_1).toNat * 9)).block, (ad156.add ((x5_1).toNat * 9)).off + 2, none⟩ = some (.int .i64 ((rd_T65 l0 x5_1).f2)) ∧ w'.cell? ⟨(ad156.add ((x5_1).toNat * 9)).block, (ad156.add ((x5_1).toNat * 9)).off + 3, none⟩ = some (.int .i64 ((rd_T65 l0 x5_1).f3)) ∧ w'.cell? ⟨(ad156.add ((x5_1).toNat * 9)).block, (ad156.add ((x5_1).toNat * 9)).off + 4, none⟩ = some (.int .i64 ((rd_T65 l0 x5_1).f4)) ∧ w'.cell? ⟨(ad156.add ((x5_1).toNat * 9)).block, (ad156.add ((x5_1).toNat * 9)).off + 5, none⟩ = some (.int .i64 ((rd_T65 l0 x5_1).f5)) ∧ w'.cell? ⟨(ad156.add ((x5_1).toNat * 9)).block, (ad156.add ((x5_1).toNat * 9)).off + 6, none⟩ = some (.int .i64 ((rd_T65 l0 x5_1).f6)) ∧ w'.cell? ⟨(ad156.add ((x5_1).toNat * 9)).block, (ad156.add ((x5_1).toNat * 9)).off + 7, none⟩ = some (.int .i64 ((rd_T65 l0 x5_1).f7)) ∧ w'.cell? ⟨(ad156.add ((x5_1).toNat * 9)).block, (ad156.add ((x5_1).toNat * 9)).off + 8, none⟩ = some (.int .i64 ((rd_T65 l0 x5_1).f8)) ∧ w'.cell? (ad157.add ((x5_1).toNat * 9)) = some (.string ((rd_T65 l1 x5_1).f0)) ∧ w'.cell? ⟨(ad157.add ((x5_1).toNat * 9)).block, (ad157.add ((x5_1).toNat * 9)).off + 1, none⟩ = some (.int .i64 ((rd_T65 l1 x5_1).f1)) ∧ w'.cell? ⟨(ad157.add ((x5_1).toNat * 9)).block, (ad157.add ((x5_1).toNat * 9)).off + 2, none⟩ = some (.int .i64 ((rd_T65 l1 x5_1).f2)) ∧ w'.cell? ⟨(ad157.add ((x5_1).toNat * 9)).block, (ad157.add ((x5_1).toNat * 9)).off + 3, none⟩ = some (.int .i64 ((rd_T65 l1 x5_1).f3)) ∧ w'.cell? ⟨(ad157.add ((x5_1).toNat * 9)).block, (ad157.add ((x5_1).toNat * 9)).off + 4, none⟩ = some (.int .i64 ((rd_T65 l1 x5_1).f4)) ∧ w'.cell? ⟨(ad157.add ((x5_1).toNat * 9)).block, (ad157.add ((x5_1).toNat * 9)).off + 5, none⟩ = some (.int .i64 ((rd_T65 l1 x5_1).f5)) ∧ w'.cell? ⟨(ad157.add ((x5_1).toNat * 9)).block, (ad157.add ((x5_1).toNat * 9)).off + 6, none⟩ = some (.int .i64 ((rd_T65 l1 x5_1).f6)) ∧ w'.cell? ⟨(ad157.add ((x5_1).toNat * 9)).block, (ad157.add ((x5_1).toNat * 9)).off + 7, none⟩ = some (.int .i64 ((rd_T65 l1 x5_1).f7)) ∧ w'.cell? ⟨(ad157.add ((x5_1).toNat * 9)).block, (ad157.add ((x5_1).toNat * 9)).off + 8, none⟩ = some (.int .i64 ((rd_T65 l1 x5_1).f8))) (ds := []) m10_0 zr rfl rfl ⟨((HB.out.cell (jA w _ hw156_0)).trans hw156_0), ((HB.out.cell (jA w _ hw156_1)).trans hw156_1), ((HB.out.cell (jA w _ hw156_2)).trans hw156_2), ((HB.out.cell (jA w _ hw156_3)).trans hw156_3), ((HB.out.cell (jA w _ hw156_4)).trans hw156_4), ((HB.out.cell (jA w _ hw156_5)).trans hw156_5), ((HB.out.cell (jA w _ hw156_6)).trans hw156_6), ((HB.out.cell (jA w _ hw156_7)).trans hw156_7), ((HB.out.cell (jA w _ hw156_8)).trans hw156_8), ((HB.out.cell (jA w _ hw157_0)).trans hw157_0), ((HB.out.cell (jA w _ hw157_1)).trans hw157_1), ((HB.out.cell (jA w _ hw157_2)).trans hw157_2), ((HB.out.cell (jA w _ hw157_3)).trans hw157_3), ((HB.out.cell (jA w _ hw157_4)).trans hw157_4), ((HB.out.cell (jA w _ hw157_5)).trans hw157_5), ((HB.out.cell (jA w _ hw157_6)).trans hw157_6), ((HB.out.cell (jA w _ hw157_7)).trans hw157_7), ((HB.out.cell (jA w _ hw157_8)).trans hw157_8)⟩ (fun hHeld => ?_); refine with_tabW laws_eqArticleS.tab6 laws_eqArticleS.bits6 (fun HT_ HW_ => ?_)
        generalize wr.drew = w9 at HB hx156_0 hx156_1 hx156_2 hx156_3 hx156_4 hx156_5 hx156_6 hx156_7 hx156_8 hx157_0 hx157_1 hx157_2 hx157_3 hx157_4 hx157_5 hx157_6 hx157_7 hx157_8 hHeld ⊢
        refine zp HT_ 0 17 m10_200 ?_
        refine zp HT_ 1 18 m10_300 ?_
        refine zp HT_ 2 19 m10_380 ?_
        refine zp HT_ 4 21 m10_3a0 ?_
        refine zp HT_ 5 22 m10_3b0 ?_
        refine zp HT_ 6 23 m10_3b8 ?_
        refine zt18 HT_ HW_ hHeld 3 20 m10_3f8 ?_
        refine zt18 HT_ HW_ hHeld 7 24 m10_3fc ?_
        refine one_ (i := 8) (N := some 25) m10_3fe rfl rfl (one_of HT_.out zr) (by decide) (fun K hK => ?_)
        refine goes_ Try.func82 zr rfl #[.agg #[.string ((rd_T65 l0 x5_1).f0), .int .i64 ((rd_T65 l0 x5_1).f1), .int .i64 ((rd_T65 l0 x5_1).f2), .int .i64 ((rd_T65 l0 x5_1).f3), .int .i64 ((rd_T65 l0 x5_1).f4), .int .i64 ((rd_T65 l0 x5_1).f5), .int .i64 ((rd_T65 l0 x5_1).f6), .int .i64 ((rd_T65 l0 x5_1).f7), .int .i64 ((rd_T65 l0 x5_1).f8)], .agg #[.string ((rd_T65 l1 x5_1).f0), .int .i64 ((rd_T65 l1 x5_1).f1), .int .i64 ((rd_T65 l1 x5_1).f2), .int .i64 ((rd_T65 l1 x5_1).f3), .int .i64 ((rd_T65 l1 x5_1).f4), .int .i64 ((rd_T65 l1 x5_1).f5), .int .i64 ((rd_T65 l1 x5_1).f6), .int .i64 ((rd_T65 l1 x5_1).f7), .int .i64 ((rd_T65 l1 x5_1).f8)]] (by rfl) rfl rfl zm ?_
        with_reducible refine (laws_eqArticle.calls ((rd_T65 l0 x5_1).f0) ((rd_T65 l0 x5_1).f1) ((rd_T65 l0 x5_1).f2) ((rd_T65 l0 x5_1).f3) ((rd_T65 l0 x5_1).f4) ((rd_T65 l0 x5_1).f5) ((rd_T65 l0 x5_1).f6) ((rd_T65 l0 x5_1).f7) ((rd_T65 l0 x5_1).f8) ((rd_T65 l1 x5_1).f0) ((rd_T65 l1 x5_1).f1) ((rd_T65 l1 x5_1).f2) ((rd_T65 l1 x5_1).f3) ((rd_T65 l1 x5_1).f4) ((rd_T65 l1 x5_1).f5) ((rd_T65 l1 x5_1).f6) ((rd_T65 l1 x5_1).f7) ((rd_T65 l1 x5_1).f8) true _ A7.out).mono ?_
        rintro e w10 ⟨rfl, hb⟩
        refine ⟨_, rfl, ?_⟩
        have n0_ := jB (jK (zb0 HB) hb)
        clear HB
        have HB := n0_
        clear n0_
        (try clear hb)
        (try clear hb2)
        (try clear hk)
        (try clear hi)
        refine hK.out _ _ ⟨((HB.out.cell (jA w _ hw156_0)).trans hw156_0), ((HB.out.cell (jA w _ hw156_1)).trans hw156_1), ((HB.out.cell (jA w _ hw156_2)).trans hw156_2), ((HB.out.cell (jA w _ hw156_3)).trans hw156_3), ((HB.out.cell (jA w _ hw156_4)).trans hw156_4), ((HB.out.cell (jA w _ hw156_5)).trans hw156_5), ((HB.out.cell (jA w _ hw156_6)).trans hw156_6), ((HB.out.cell (jA w _ hw156_7)).trans hw156_7), ((HB.out.cell (jA w _ hw156_8)).trans hw156_8), ((HB.out.cell (jA w _ hw157_0)).trans hw157_0), ((HB.out.cell (jA w _ hw157_1)).trans hw157_1), ((HB.out.cell (jA w _ hw157_2)).trans hw157_2), ((HB.out.cell (jA w _ hw157_3)).trans hw157_3), ((HB.out.cell (jA w _ hw157_4)).trans hw157_4), ((HB.out.cell (jA w _ hw157_5)).trans hw157_5), ((HB.out.cell (jA w _ hw157_6)).trans hw157_6), ((HB.out.cell (jA w _ hw157_7)).trans hw157_7), ((HB.out.cell (jA w _ hw157_8)).trans hw157_8)⟩ (fun hHeld => ?_)
        clear hK K
        refine norm_ (a' := ?_) ?_ ?_
        rotate_left
        ·show Act.put _ (some 25) _ = _
         simp only [Act.put, jL, jS, jT, i64_w, i32_w]
         rfl
        refine zp HT_ 9 26 m10_3ff ?_
        refine done_ (done_of HT_.out zr) ?_
        try go_wp2
        go_roundg k1
        case measure => have := HK1.out; omega
        case rel => exact ⟨(wrap64 (x5_1 + 1)), zz, H', ⟨by have := HK1.out; omega⟩, ⟨zb0 HB⟩⟩
       ·replace c8 := Bool.eq_false_iff.mpr c8
        subst c8
        have H1 : (some false) = some r := by rw [if_neg (show ¬ (false = true) by decide)] at H; exact H
        clear H
        have H := H1
        clear H1
        obtain rfl := jN H
        try go_wp2
        have n0_ := jB (below_drew1 HB.out)
        clear HB
        have HB := n0_
        clear n0_
        have p156 : 0 ≤ (x5_1 : Int) := jE za
        have q156 : x5_1 < (l0.length : Int) := jE za
        obtain ⟨ad156, e156, hx156_0, hx156_1, hx156_2, hx156_3, hx156_4, hx156_5, hx156_6, hx156_7, hx156_8⟩ := at_T65 HR0.out x5_1 p156 q156
        have hw156_8 := hx156_8
        have hw156_7 := hx156_7
        have hw156_6 := hx156_6
        have hw156_5 := hx156_5
        have hw156_4 := hx156_4
        have hw156_3 := hx156_3
        have hw156_2 := hx156_2
        have hw156_1 := hx156_1
        have hw156_0 := hx156_0
        cases e156
        replace hx156_0 := (HB.out.cell (jA w _ hx156_0)).trans hx156_0
        replace hx156_1 := (HB.out.cell (jA w _ hx156_1)).trans hx156_1
        replace hx156_2 := (HB.out.cell (jA w _ hx156_2)).trans hx156_2
        replace hx156_3 := (HB.out.cell (jA w _ hx156_3)).trans hx156_3
        replace hx156_4 := (HB.out.cell (jA w _ hx156_4)).trans hx156_4
        replace hx156_5 := (HB.out.cell (jA w _ hx156_5)).trans hx156_5
        replace hx156_6 := (HB.out.cell (jA w _ hx156_6)).trans hx156_6
        replace hx156_7 := (HB.out.cell (jA w _ hx156_7)).trans hx156_7
        replace hx156_8 := (HB.out.cell (jA w _ hx156_8)).trans hx156_8
        replace p156 := eq_true p156
        replace q156 := eq_true q156
        have p157 : 0 ≤ (x5_1 : Int) := jE za
        have q157 : x5_1 < (l1.length : Int) := jE za
        obtain ⟨ad157, e157, hx157_0, hx157_1, hx157_2, hx157_3, hx157_4, hx157_5, hx157_6, hx157_7, hx157_8⟩ := at_T65 HR1.out x5_1 p157 q157
        have hw157_8 := hx157_8
        have hw157_7 := hx157_7
        have hw157_6 := hx157_6
        have hw157_5 := hx157_5
        have hw157_4 := hx157_4
        have hw157_3 := hx157_3
        have hw157_2 := hx157_2
        have hw157_1 := hx157_1
        have hw157_0 := hx157_0
        cases e157
        replace hx157_0 := (HB.out.cell (jA w _ hx157_0)).trans hx157_0
        replace hx157_1 := (HB.out.cell (jA w _ hx157_1)).trans hx157_1
        replace hx157_2 := (HB.out.cell (jA w _ hx157_2)).trans hx157_2
        replace hx157_3 := (HB.out.cell (jA w _ hx157_3)).trans hx157_3
        replace hx157_4 := (HB.out.cell (jA w _ hx157_4)).trans hx157_4
        replace hx157_5 := (HB.out.cell (jA w _ hx157_5)).trans hx157_5
        replace hx157_6 := (HB.out.cell (jA w _ hx157_6)).trans hx157_6
        replace hx157_7 := (HB.out.cell (jA w _ hx157_7)).trans hx157_7
        replace hx157_8 := (HB.out.cell (jA w _ hx157_8)).trans hx157_8
        replace p157 := eq_true p157
        replace q157 := eq_true q157
        refine start_ (n := 10) (S := fun w' => w'.cell? (ad156.add ((x5_1).toNat * 9)) = some (.string ((rd_T65 l0 x5_1).f0)) ∧ w'.cell? ⟨(ad156.add ((x5_1).toNat * 9)).block, (ad156.add ((x5_1).toNat * 9)).off + 1, none⟩ = some (.int .i64 ((rd_T65 l0 x5_1).f1)) ∧ w'.cell? ⟨(ad156.add ((x5_1).toNat * 9)).block, (ad156.add ((x5_1).toNat * 9)).off + 2, none⟩ = some (.int .i64 ((rd_T65 l0 x5_1).f2)) ∧ w'.cell? ⟨(ad156.add ((x5_1).toNat * 9)).block, (ad156.add ((x5_1).toNat * 9)).off + 3, none⟩ = some (.int .i64 ((rd_T65 l0 x5_1).f3)) ∧ w'.cell? ⟨(ad156.add ((x5_1).toNat * 9)).block, (ad156.add ((x5_1).toNat * 9)).off + 4, none⟩ = some (.int .i64 ((rd_T65 l0 x5_1).f4)) ∧ w'.cell? ⟨(ad156.add ((x5_1).toNat * 9)).block, (ad156.add ((x5_1).toNat * 9)).off + 5, none⟩ = some (.int .i64 ((rd_T65 l0 x5_1).f5)) ∧ w'.cell? ⟨(ad156.add ((x5_1).toNat * 9)).block, (ad156.add ((x5_1).toNat * 9)).off + 6, none⟩ = some (.int .i64 ((rd_T65 l0 x5_1).f6)) ∧ w'.cell? ⟨(ad156.add ((x5_1).toNat * 9)).block, (ad156.add ((x5_1).toNat * 9)).off + 7, none⟩ = some (.int .i64 ((rd_T65 l0 x5_1).f7)) ∧ w'.cell? ⟨(ad156.add ((x5_1).toNat * 9)).block, (ad156.add ((x5_1).toNat * 9)).off + 8, none⟩ = some (.int .i64 ((rd_T65 l0 x5_1).f8)) ∧ w'.cell? (ad157.add ((x5_1).toNat * 9)) = some (.string ((rd_T65 l1 x5_1).f0)) ∧ w'.cell? ⟨(ad157.add ((x5_1).toNat * 9)).block, (ad157.add ((x5_1).toNat * 9)).off + 1, none⟩ = some (.int .i64 ((rd_T65 l1 x5_1).f1)) ∧ w'.cell? ⟨(ad157.add ((x5_1).toNat * 9)).block, (ad157.add ((x5_1).toNat * 9)).off + 2, none⟩ = some (.int .i64 ((rd_T65 l1 x5_1).f2)) ∧ w'.cell? ⟨(ad157.add ((x5_1).toNat * 9)).block, (ad157.add ((x5_1).toNat * 9)).off + 3, none⟩ = some (.int .i64 ((rd_T65 l1 x5_1).f3)) ∧ w'.cell? ⟨(ad157.add ((x5_1).toNat * 9)).block, (ad157.add ((x5_1).toNat * 9)).off + 4, none⟩ = some (.int .i64 ((rd_T65 l1 x5_1).f4)) ∧ w'.cell? ⟨(ad157.add ((x5_1).toNat * 9)).block, (ad157.add ((x5_1).toNat * 9)).off + 5, none⟩ = some (.int .i64 ((rd_T65 l1 x5_1).f5)) ∧ w'.cell? ⟨(ad157.add ((x5_1).toNat * 9)).block, (ad157.add ((x5_1).toNat * 9)).off + 6, none⟩ = some (.int .i64 ((rd_T65 l1 x5_1).f6)) ∧ w'.cell? ⟨(ad157.add ((x5_1).toNat * 9)).block, (ad157.add ((x5_1).toNat * 9)).off + 7, none⟩ = some (.int .i64 ((rd_T65 l1 x5_1).f7)) ∧ w'.cell? ⟨(ad157.add ((x5_1).toNat * 9)).block, (ad157.add ((x5_1).toNat * 9)).off + 8, none⟩ = some (.int .i64 ((rd_T65 l1 x5_1).f8))) (ds := []) m10_0 zr rfl rfl ⟨((HB.out.cell (jA w _ hw156_0)).trans hw156_0), ((HB.out.cell (jA w _ hw156_1)).trans hw156_1), ((HB.out.cell (jA w _ hw156_2)).trans hw156_2), ((HB.out.cell (jA w _ hw156_3)).trans hw156_3), ((HB.out.cell (jA w _ hw156_4)).trans hw156_4), ((HB.out.cell (jA w _ hw156_5)).trans hw156_5), ((HB.out.cell (jA w _ hw156_6)).trans hw156_6), ((HB.out.cell (jA w _ hw156_7)).trans hw156_7), ((HB.out.cell (jA w _ hw156_8)).trans hw156_8), ((HB.out.cell (jA w _ hw157_0)).trans hw157_0), ((HB.out.cell (jA w _ hw157_1)).trans hw157_1), ((HB.out.cell (jA w _ hw157_2)).trans hw157_2), ((HB.out.cell (jA w _ hw157_3)).trans hw157_3), ((HB.out.cell (jA w _ hw157_4)).trans hw157_4), ((HB.out.cell (jA w _ hw157_5)).trans hw157_5), ((HB.out.cell (jA w _ hw157_6)).trans hw157_6), ((HB.out.cell (jA w _ hw157_7)).trans hw157_7), ((HB.out.cell (jA w _ hw157_8)).trans hw157_8)⟩ (fun hHeld => ?_); refine with_tabW laws_eqArticleS.tab6 laws_eqArticleS.bits6 (fun HT_ HW_ => ?_)
        generalize wr.drew = w11 at HB hx156_0 hx156_1 hx156_2 hx156_3 hx156_4 hx156_5 hx156_6 hx156_7 hx156_8 hx157_0 hx157_1 hx157_2 hx157_3 hx157_4 hx157_5 hx157_6 hx157_7 hx157_8 hHeld ⊢
        refine zp HT_ 0 17 m10_200 ?_
        refine zp HT_ 1 18 m10_300 ?_
        refine zp HT_ 2 19 m10_380 ?_
        refine zp HT_ 4 21 m10_3a0 ?_
        refine zp HT_ 5 22 m10_3b0 ?_
        refine zp HT_ 6 23 m10_3b8 ?_
        refine zt18 HT_ HW_ hHeld 3 20 m10_3f8 ?_
        refine zt18 HT_ HW_ hHeld 7 24 m10_3fc ?_
        refine one_ (i := 8) (N := some 25) m10_3fe rfl rfl (one_of HT_.out zr) (by decide) (fun K hK => ?_)
        refine goes_ Try.func82 zr rfl #[.agg #[.string ((rd_T65 l0 x5_1).f0), .int .i64 ((rd_T65 l0 x5_1).f1), .int .i64 ((rd_T65 l0 x5_1).f2), .int .i64 ((rd_T65 l0 x5_1).f3), .int .i64 ((rd_T65 l0 x5_1).f4), .int .i64 ((rd_T65 l0 x5_1).f5), .int .i64 ((rd_T65 l0 x5_1).f6), .int .i64 ((rd_T65 l0 x5_1).f7), .int .i64 ((rd_T65 l0 x5_1).f8)], .agg #[.string ((rd_T65 l1 x5_1).f0), .int .i64 ((rd_T65 l1 x5_1).f1), .int .i64 ((rd_T65 l1 x5_1).f2), .int .i64 ((rd_T65 l1 x5_1).f3), .int .i64 ((rd_T65 l1 x5_1).f4), .int .i64 ((rd_T65 l1 x5_1).f5), .int .i64 ((rd_T65 l1 x5_1).f6), .int .i64 ((rd_T65 l1 x5_1).f7), .int .i64 ((rd_T65 l1 x5_1).f8)]] (by rfl) rfl rfl zm ?_
        with_reducible refine (laws_eqArticle.calls ((rd_T65 l0 x5_1).f0) ((rd_T65 l0 x5_1).f1) ((rd_T65 l0 x5_1).f2) ((rd_T65 l0 x5_1).f3) ((rd_T65 l0 x5_1).f4) ((rd_T65 l0 x5_1).f5) ((rd_T65 l0 x5_1).f6) ((rd_T65 l0 x5_1).f7) ((rd_T65 l0 x5_1).f8) ((rd_T65 l1 x5_1).f0) ((rd_T65 l1 x5_1).f1) ((rd_T65 l1 x5_1).f2) ((rd_T65 l1 x5_1).f3) ((rd_T65 l1 x5_1).f4) ((rd_T65 l1 x5_1).f5) ((rd_T65 l1 x5_1).f6) ((rd_T65 l1 x5_1).f7) ((rd_T65 l1 x5_1).f8) false _ A7.out).mono ?_
        rintro e w12 ⟨rfl, hb⟩
        refine ⟨_, rfl, ?_⟩
        have n0_ := jB (jK (zb0 HB) hb)
        clear HB
        have HB := n0_
        clear n0_
        (try clear hb)
        (try clear hb2)
        (try clear hk)
        (try clear hi)
        refine hK.out _ _ ⟨((HB.out.cell (jA w _ hw156_0)).trans hw156_0), ((HB.out.cell (jA w _ hw156_1)).trans hw156_1), ((HB.out.cell (jA w _ hw156_2)).trans hw156_2), ((HB.out.cell (jA w _ hw156_3)).trans hw156_3), ((HB.out.cell (jA w _ hw156_4)).trans hw156_4), ((HB.out.cell (jA w _ hw156_5)).trans hw156_5), ((HB.out.cell (jA w _ hw156_6)).trans hw156_6), ((HB.out.cell (jA w _ hw156_7)).trans hw156_7), ((HB.out.cell (jA w _ hw156_8)).trans hw156_8), ((HB.out.cell (jA w _ hw157_0)).trans hw157_0), ((HB.out.cell (jA w _ hw157_1)).trans hw157_1), ((HB.out.cell (jA w _ hw157_2)).trans hw157_2), ((HB.out.cell (jA w _ hw157_3)).trans hw157_3), ((HB.out.cell (jA w _ hw157_4)).trans hw157_4), ((HB.out.cell (jA w _ hw157_5)).trans hw157_5), ((HB.out.cell (jA w _ hw157_6)).trans hw157_6), ((HB.out.cell (jA w _ hw157_7)).trans hw157_7), ((HB.out.cell (jA w _ hw157_8)).trans hw157_8)⟩ (fun hHeld => ?_)
        clear hK K
        refine norm_ (a' := ?_) ?_ ?_
        rotate_left
        ·show Act.put _ (some 25) _ = _
         simp only [Act.put, jL, jS, jT, i64_w, i32_w]
         rfl
        refine zp HT_ 9 26 m10_3ff ?_
        refine done_ (done_of HT_.out zr) ?_
        try go_wp2
        go_ret
        exact ⟨by first | rfl | (simp [errW_none, errW_some] <;> rfl) | (simp [*, errW_none, errW_some] <;> rfl), zb0 HB⟩
      ·rw [if_neg c6] at H
       exact absurd H (by simp)
     ·rw [if_neg c5] at H
      exact absurd H (by simp)
    ·rw [if_neg c4] at H
     have c4b0 : decide (x5_1 < (l0.length : Int)) = false := jZ c4
     clear c4
     obtain rfl := jN H
     go_wp2
     go_ret
     exact ⟨by first | rfl | (simp [errW_none, errW_some] <;> rfl) | (simp [*, errW_none, errW_some] <;> rfl), zb0 HB⟩
 ·rw [if_neg c3] at H
  have c3b0 : ((l0.length : Int) == (l1.length : Int)) = false := beq_eq_false_iff_ne.mpr c3
  have c3b1 : ((l0.length : Int) != (l1.length : Int)) = true := bne_iff_ne.mpr c3
  have c3b2 : (l0.length == l1.length) = false := by first | simpa using c3 | (simp at c3 ⊢; omega)
  obtain rfl := jN H
  go_enter Try.func53, Try.ntmps53
  go_wp2
  go_ret
  exact ⟨by first | rfl | (simp [errW_none, errW_some] <;> rfl) | (simp [*, errW_none, errW_some] <;> rfl), zb0 HB⟩

/-! ### laws_eqInt64S: function 52 -/
def laws_eqInt64S.l0 : Nat → List Int → List Int → Int → Option (Bool)
 | 0, _, _, _ => none
 | k + 1, x0, x1, x5 => if x5 < (x0.length : Int) then (if 0 ≤ x5 then (if x5 < (x1.length : Int) then (if (rd x0 x5) = (rd x1 x5) then (laws_eqInt64S.l0 k x0 x1 (wrap64 (x5 + 1))) else (some false)) else (none)) else (none)) else (some true)
def laws_eqInt64S.f (k : Nat) (l0 : List Int) (l1 : List Int) : Option (Bool) := if (l0.length : Int) = (l1.length : Int) then (laws_eqInt64S.l0 k l0 l1 0) else (some false)
theorem laws_eqInt64S.mono_l : ∀ k, (∀ y0 y1 y2, LeO (laws_eqInt64S.l0 k y0 y1 y2) (laws_eqInt64S.l0 (k + 1) y0 y1 y2))
 | 0 => fun _ _ _ r h => by simp [laws_eqInt64S.l0] at h
 | k + 1 => by
  have ih0 := laws_eqInt64S.mono_l k
  ·intro y0 y1 y2
   unfold laws_eqInt64S.l0
   repeat' first
   | (with_reducible exact ih0 _ _ _)
   | (with_reducible exact LeO.refl _)
   | (with_reducible exact LeO.none _)
   | (with_reducible refine LeO.ite ?_ ?_)
   | (with_reducible refine LeO.bind ?_ (fun _ => ?_))
   | exact ih0 _ _ _
   | exact LeO.none _
   | refine LeO.ite ?_ ?_
   | refine LeO.bind ?_ (fun _ => ?_)
theorem laws_eqInt64S.mono : ∀ a0 a1 k, LeO (laws_eqInt64S.f k a0 a1) (laws_eqInt64S.f (k + 1) a0 a1) := by
 intro a0 a1 k
 have ih0 := laws_eqInt64S.mono_l k
 unfold laws_eqInt64S.f
 repeat' first
   | (with_reducible exact ih0 _ _ _)
   | (with_reducible exact LeO.refl _)
   | (with_reducible exact LeO.none _)
   | (with_reducible refine LeO.ite ?_ ?_)
   | (with_reducible refine LeO.bind ?_ (fun _ => ?_))
   | exact ih0 _ _ _
   | exact LeO.none _
   | refine LeO.ite ?_ ?_
   | refine LeO.bind ?_ (fun _ => ?_)
set_option maxHeartbeats 8000000 in
set_option maxRecDepth 100000 in
theorem laws_eqInt64S.calls (k : Nat) (A0 : Option Addr) (c0 : Nat) (l0 : List Int) (A1 : Option Addr) (c1 : Nat) (l1 : List Int) (r : Bool) (w : World) (hr0 : Kd.C (Kd.int .i64) w A0 l0.length l0) (hc0 : l0.length ≤ c0) (hr1 : Kd.C (Kd.int .i64) w A1 l1.length l1) (hc1 : l1.length ≤ c1) (h : laws_eqInt64S.f k l0 l1 = some r) :
  Calls Try.prog 52 #[.slice A0 l0.length c0, .slice A1 l1.length c1] w fun e w' => e = .returned (.bool r) ∧ Drawn0 w w' := by
 have HR0 := jB hr0
 have HC0 := jB hc0
 clear hr0 hc0
 have HR1 := jB hr1
 have HC1 := jB hc1
 clear hr1 hc1
 have H : (if (l0.length : Int) = (l1.length : Int) then (laws_eqInt64S.l0 k l0 l1 0) else (some false)) = some r := h
 clear h
 by_cases c3 : (l0.length : Int) = (l1.length : Int)
 ·rw [if_pos c3] at H
  have c3b0 : ((l0.length : Int) == (l1.length : Int)) = true := beq_iff_eq.mpr c3
  have c3b1 : ((l0.length : Int) != (l1.length : Int)) = false := bne_eq_false_iff_eq.mpr c3
  have c3b2 : (l0.length == l1.length) = true := by first | simpa using c3 | (simp at c3 ⊢; omega)
  clear c3
  have H' := jB H
  clear H
  go_enter Try.func52, Try.ntmps52
  go_wp2
  repeat (go_quiet (fail); try go_wp2)
  go_loopg [5] k (fun kq v5 w' => ∃ (x5_1 : Int), v5 = .int .i64 x5_1 ∧ Aside0 (laws_eqInt64S.l0 kq l0 l1 x5_1 = some r) ∧ Aside0 (kq ≤ k) ∧ Drawn0 w w')
  case atStart => exact ⟨(0), zz, H', ⟨Nat.le_refl _⟩, by repeat (first | exact Drawn0.refl _ | apply Drawn0.step)⟩
  case round =>
   clear H'
   try clear c1
   try clear p2
   try clear c3
   try clear c3b0
   try clear c3b1
   try clear c3b2
   obtain ⟨x5_1, rfl, HA, HK1, ⟨m1, rfl⟩⟩ := hrel
   cases gk with
   | zero => exact absurd HA.out (by simp [laws_eqInt64S.l0])
   | succ k1 =>
    have H := HA.out
    clear HA
    simp only [laws_eqInt64S.l0] at H
    by_cases c4 : x5_1 < (l0.length : Int)
    ·rw [if_pos c4] at H
     have c4b0 : decide (x5_1 < (l0.length : Int)) = true := jR c4
     clear c4
     by_cases c5 : 0 ≤ x5_1
     ·rw [if_pos c5] at H
      have c5b0 : decide (0 ≤ x5_1) = true := jR c5
      clear c5
      by_cases c6 : x5_1 < (l1.length : Int)
      ·rw [if_pos c6] at H
       have c6b0 : decide (x5_1 < (l1.length : Int)) = true := jR c6
       clear c6
       by_cases c7 : (rd l0 x5_1) = (rd l1 x5_1)
       ·rw [if_pos c7] at H
        have c7b0 : ((rd l0 x5_1) == (rd l1 x5_1)) = true := beq_iff_eq.mpr c7
        have c7b1 : ((rd l0 x5_1) != (rd l1 x5_1)) = false := bne_eq_false_iff_eq.mpr c7
        clear c7
        have H' := jB H
        clear H
        have p169 : 0 ≤ (x5_1 : Int) := jE za
        have q169 : x5_1 < (l0.length : Int) := jE za
        obtain ⟨ad169, e169, hx169_0⟩ := Kd.at_int HR0.out x5_1 p169 q169
        cases e169
        replace p169 := eq_true p169
        replace q169 := eq_true q169
        have p170 : 0 ≤ (x5_1 : Int) := jE za
        have q170 : x5_1 < (l1.length : Int) := jE za
        obtain ⟨ad170, e170, hx170_0⟩ := Kd.at_int HR1.out x5_1 p170 q170
        cases e170
        replace p170 := eq_true p170
        replace q170 := eq_true q170
        go_wp2
        repeat (go_quiet (fail); try go_wp2)
        go_roundg k1
        case measure => have := HK1.out; omega
        case rel => exact ⟨(wrap64 (x5_1 + 1)), zz, H', ⟨by have := HK1.out; omega⟩, by repeat (first | exact Drawn0.refl _ | apply Drawn0.step)⟩
       ·rw [if_neg c7] at H
        have c7b0 : ((rd l0 x5_1) == (rd l1 x5_1)) = false := beq_eq_false_iff_ne.mpr c7
        have c7b1 : ((rd l0 x5_1) != (rd l1 x5_1)) = true := bne_iff_ne.mpr c7
        obtain rfl := jN H
        have p169 : 0 ≤ (x5_1 : Int) := jE za
        have q169 : x5_1 < (l0.length : Int) := jE za
        obtain ⟨ad169, e169, hx169_0⟩ := Kd.at_int HR0.out x5_1 p169 q169
        cases e169
        replace p169 := eq_true p169
        replace q169 := eq_true q169
        have p170 : 0 ≤ (x5_1 : Int) := jE za
        have q170 : x5_1 < (l1.length : Int) := jE za
        obtain ⟨ad170, e170, hx170_0⟩ := Kd.at_int HR1.out x5_1 p170 q170
        cases e170
        replace p170 := eq_true p170
        replace q170 := eq_true q170
        go_wp2
        repeat (go_quiet (fail); try go_wp2)
        go_ret
        exact ⟨by first | rfl | (simp; done) | (simp [*]; done), by repeat (first | exact Drawn0.refl _ | apply Drawn0.step)⟩
      ·rw [if_neg c6] at H
       exact absurd H (by simp)
     ·rw [if_neg c5] at H
      exact absurd H (by simp)
    ·rw [if_neg c4] at H
     have c4b0 : decide (x5_1 < (l0.length : Int)) = false := jZ c4
     clear c4
     obtain rfl := jN H
     go_wp2
     repeat (go_quiet (fail); try go_wp2)
     go_ret
     exact ⟨by first | rfl | (simp; done) | (simp [*]; done), by repeat (first | exact Drawn0.refl _ | apply Drawn0.step)⟩
 ·rw [if_neg c3] at H
  have c3b0 : ((l0.length : Int) == (l1.length : Int)) = false := beq_eq_false_iff_ne.mpr c3
  have c3b1 : ((l0.length : Int) != (l1.length : Int)) = true := bne_iff_ne.mpr c3
  have c3b2 : (l0.length == l1.length) = false := by first | simpa using c3 | (simp at c3 ⊢; omega)
  obtain rfl := jN H
  go_enter Try.func52, Try.ntmps52
  go_wp2
  repeat (go_quiet (fail); try go_wp2)
  go_ret
  exact ⟨by first | rfl | (simp; done) | (simp [*]; done), by repeat (first | exact Drawn0.refl _ | apply Drawn0.step)⟩

/-! ### spec_l01In: function 58 -/
def spec_l01In.f (a0 : Int) (a1 : Int) (a2 : Int) : Option (Bool) := if a0 ≥ a1 then (some (decide (a0 ≤ a2))) else (some false)
set_option maxHeartbeats 8000000 in
set_option maxRecDepth 100000 in
theorem spec_l01In.calls (a0 : Int) (a1 : Int) (a2 : Int) (r : Bool) (w : World) (h : spec_l01In.f a0 a1 a2 = some r) :
  Calls Try.prog 58 #[.int .i64 a0, .int .i64 a1, .int .i64 a2] w fun e w' => e = .returned (.bool r) ∧ Drawn0 w w' := by
 have H : (if a0 ≥ a1 then (some (decide (a0 ≤ a2))) else (some false)) = some r := h
 clear h
 by_cases c4 : a0 ≥ a1
 ·rw [if_pos c4] at H
  have c4b0 : decide (a1 ≤ a0) = true := jR c4
  clear c4
  obtain rfl := jN H
  go_enter Try.func58, Try.ntmps58
  go_wp2
  go_ret
  exact ⟨by first | rfl | (simp; done) | (simp [*]; done), by repeat (first | exact Drawn0.refl _ | apply Drawn0.step)⟩
 ·rw [if_neg c4] at H
  have c4b0 : decide (a1 ≤ a0) = false := jZ c4
  clear c4
  obtain rfl := jN H
  go_enter Try.func58, Try.ntmps58
  go_wp2
  go_ret
  exact ⟨by first | rfl | (simp; done) | (simp [*]; done), by repeat (first | exact Drawn0.refl _ | apply Drawn0.step)⟩

/-! ### spec_IsWord: function 94 -/
def spec_IsWord.l0 : Nat → ByteArray → Int → Option (Bool)
 | 0, _, _ => none
 | k + 1, x0, x3 => if x3 < (x0.size : Int) then (if 0 ≤ x3 then (if (bt x0 x3) < 97 then (some false) else (if (bt x0 x3) > 122 then (some false) else (spec_IsWord.l0 k x0 (wrap64 (x3 + 1))))) else (none)) else ((spec_l01In.f (x0.size : Int) 1 16).bind fun t178 => (some t178))
def spec_IsWord.f (k : Nat) (a0 : ByteArray) : Option (Bool) := spec_IsWord.l0 k a0 0
theorem spec_IsWord.mono_l : ∀ k, (∀ y0 y1, LeO (spec_IsWord.l0 k y0 y1) (spec_IsWord.l0 (k + 1) y0 y1))
 | 0 => fun _ _ r h => by simp [spec_IsWord.l0] at h
 | k + 1 => by
  have ih0 := spec_IsWord.mono_l k
  ·intro y0 y1
   unfold spec_IsWord.l0
   repeat' first
   | (with_reducible exact ih0 _ _)
   | (with_reducible exact LeO.refl _)
   | (with_reducible exact LeO.none _)
   | (with_reducible refine LeO.ite ?_ ?_)
   | (with_reducible refine LeO.bind ?_ (fun _ => ?_))
   | exact ih0 _ _
   | exact LeO.none _
   | refine LeO.ite ?_ ?_
   | refine LeO.bind ?_ (fun _ => ?_)
theorem spec_IsWord.mono : ∀ a0 k, LeO (spec_IsWord.f k a0) (spec_IsWord.f (k + 1) a0) := by
 intro a0 k
 have ih0 := spec_IsWord.mono_l k
 unfold spec_IsWord.f
 repeat' first
   | (with_reducible exact ih0 _ _)
   | (with_reducible exact LeO.refl _)
   | (with_reducible exact LeO.none _)
   | (with_reducible refine LeO.ite ?_ ?_)
   | (with_reducible refine LeO.bind ?_ (fun _ => ?_))
   | exact ih0 _ _
   | exact LeO.none _
   | refine LeO.ite ?_ ?_
   | refine LeO.bind ?_ (fun _ => ?_)
set_option maxHeartbeats 8000000 in
set_option maxRecDepth 100000 in
theorem spec_IsWord.calls (k : Nat) (a0 : ByteArray) (r : Bool) (w : World) (h : spec_IsWord.f k a0 = some r) :
  Calls Try.prog 94 #[.string a0] w fun e w' => e = .returned (.bool r) ∧ Drawn0 w w' := by
 have H : (spec_IsWord.l0 k a0 0) = some r := h
 clear h
 have H' := jB H
 clear H
 go_enter Try.func94, Try.ntmps94
 go_wp2
 go_loopg [3] k (fun kq v3 w' => ∃ (x3_1 : Int), v3 = .int .i64 x3_1 ∧ Aside0 (spec_IsWord.l0 kq a0 x3_1 = some r) ∧ Aside0 (kq ≤ k) ∧ Drawn0 w w')
 case atStart => exact ⟨(0), zz, H', ⟨Nat.le_refl _⟩, by repeat (first | exact Drawn0.refl _ | apply Drawn0.step)⟩
 case round =>
  clear H'
  obtain ⟨x3_1, rfl, HA, HK1, ⟨m1, rfl⟩⟩ := hrel
  cases gk with
  | zero => exact absurd HA.out (by simp [spec_IsWord.l0])
  | succ k1 =>
   have H := HA.out
   clear HA
   simp only [spec_IsWord.l0] at H
   by_cases c2 : x3_1 < (a0.size : Int)
   ·rw [if_pos c2] at H
    have c2b0 : decide (x3_1 < (a0.size : Int)) = true := jR c2
    clear c2
    by_cases c3 : 0 ≤ x3_1
    ·rw [if_pos c3] at H
     have c3b0 : decide (0 ≤ x3_1) = true := jR c3
     clear c3
     by_cases c5 : (bt a0 x3_1) < 97
     ·rw [if_pos c5] at H
      have c5b0 : decide ((bt a0 x3_1) < 97) = true := jR c5
      clear c5
      obtain rfl := jN H
      have p4 : 0 ≤ (x3_1 : Int) := jE za
      have q4 : x3_1 < (a0.size : Int) := jE za
      have hx4 := bt_at a0 x3_1
      replace p4 := eq_true p4
      replace q4 := eq_true q4
      go_wp2
      go_ret
      exact ⟨by first | rfl | (simp; done) | (simp [*]; done), by repeat (first | exact Drawn0.refl _ | apply Drawn0.step)⟩
     ·rw [if_neg c5] at H
      have c5b0 : decide ((bt a0 x3_1) < 97) = false := jZ c5
      clear c5
      by_cases c7 : (bt a0 x3_1) > 122
      ·rw [if_pos c7] at H
       have c7b0 : decide (122 < (bt a0 x3_1)) = true := jR c7
       clear c7
       obtain rfl := jN H
       have p4 : 0 ≤ (x3_1 : Int) := jE za
       have q4 : x3_1 < (a0.size : Int) := jE za
       have hx4 := bt_at a0 x3_1
       replace p4 := eq_true p4
       replace q4 := eq_true q4
       have p6 : 0 ≤ (x3_1 : Int) := jE za
       have q6 : x3_1 < (a0.size : Int) := jE za
       have hx6 := bt_at a0 x3_1
       replace p6 := eq_true p6
       replace q6 := eq_true q6
       go_wp2
       go_ret
       exact ⟨by first | rfl | (simp; done) | (simp [*]; done), by repeat (first | exact Drawn0.refl _ | apply Drawn0.step)⟩
      ·rw [if_neg c7] at H
       have c7b0 : decide (122 < (bt a0 x3_1)) = false := jZ c7
       clear c7
       have H' := jB H
       clear H
       have p4 : 0 ≤ (x3_1 : Int) := jE za
       have q4 : x3_1 < (a0.size : Int) := jE za
       have hx4 := bt_at a0 x3_1
       replace p4 := eq_true p4
       replace q4 := eq_true q4
       have p6 : 0 ≤ (x3_1 : Int) := jE za
       have q6 : x3_1 < (a0.size : Int) := jE za
       have hx6 := bt_at a0 x3_1
       replace p6 := eq_true p6
       replace q6 := eq_true q6
       go_wp2
       go_roundg k1
       case measure => have := HK1.out; omega
       case rel => exact ⟨(wrap64 (x3_1 + 1)), zz, H', ⟨by have := HK1.out; omega⟩, by repeat (first | exact Drawn0.refl _ | apply Drawn0.step)⟩
    ·rw [if_neg c3] at H
     exact absurd H (by simp)
   ·rw [if_neg c2] at H
    have c2b0 : decide (x3_1 < (a0.size : Int)) = false := jZ c2
    clear c2
    replace H := jP.mp H
    obtain ⟨t178, A80, H⟩ := H
    replace H : (some t178) = some r := H
    have A8 := jB A80
    clear A80
    obtain rfl := jN H
    go_wp2_with (first | ((with_reducible refine jW (f := 58) rfl ?_); refine goesL_ (some 22) rfl rfl Try.func58 zr rfl #[.int .i64 (a0.size : Int), .int .i64 1, .int .i64 16] rfl zm ?_; (with_reducible refine (spec_l01In.calls (a0.size : Int) 1 16 t178 _ A8.out).mono ?_); rintro e w' ⟨rfl, ⟨nd, rfl⟩⟩; refine ⟨_, rfl, ?_⟩))
    go_ret
    exact ⟨by first | rfl | (simp; done) | (simp [*]; done), by repeat (first | exact Drawn0.refl _ | apply Drawn0.step)⟩

end Go.Proofs.Ytdgglhfnlljmeaa.PFnExactRoomFor
