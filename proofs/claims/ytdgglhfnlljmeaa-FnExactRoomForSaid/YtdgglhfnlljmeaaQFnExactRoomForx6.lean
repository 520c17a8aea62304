/- Functions and contracts that FnExactRoomFor reaches (7 of 15). -/
import Derived.Test.YtdgglhfnlljmeaaQFnExactRoomForx5
namespace Go.Proofs.Ytdgglhfnlljmeaa.PFnExactRoomFor
open Go.RowKit Go.Proofs.YtdgglhfnlljmeaaW.PrintWords Go.Proofs.YtdgglhfnlljmeaaW.PrintLast Go.Proofs.YtdgglhfnlljmeaaW.PrintMore
attribute [local go_sem] max2_int min2_int max_two min_two max_three min_three max_four min_four   -- for this text's walks alone
set_option linter.unusedVariables false
set_option linter.unusedSimpArgs false
open Go.Proofs.YtdgglhfnlljmeaaX

/-! ### spec_l03Code: function 59 -/
def spec_l03Code.l0 : Nat → List (S65) → List Int → Int → Option (Int)
 | 0, _, _, _ => none
 | k + 1, x0, x1, x5 => if x5 < (x1.length : Int) then (if 0 ≤ x5 then ((spec_l01In.f (rd x1 x5) 0 1000).bind fun t195 => (if t195 = true then (spec_l03Code.l0 k x0 x1 (wrap64 (x5 + 1))) else (some 2))) else (none)) else (if (x1.length : Int) = (x0.length : Int) then (some 0) else (some 2))
def spec_l03Code.f (k : Nat) (l0 : List (S65)) (l1 : List Int) : Option (Int) := (spec_AreArticles.f k l0).bind fun t193 => (if t193 = true then (spec_l03Code.l0 k l0 l1 0) else (some 1))
theorem spec_l03Code.mono_l : ∀ k, (∀ y0 y1 y2, LeO (spec_l03Code.l0 k y0 y1 y2) (spec_l03Code.l0 (k + 1) y0 y1 y2))
 | 0 => fun _ _ _ r h => by simp [spec_l03Code.l0] at h
 | k + 1 => by
  have ih0 := spec_l03Code.mono_l k
  ·intro y0 y1 y2
   unfold spec_l03Code.l0
   repeat' first
   | (with_reducible exact ih0 _ _ _)
   | (with_reducible exact spec_AreArticles.mono _ _)
   | (with_reducible exact LeO.refl _)
   | (with_reducible exact LeO.none _)
   | (with_reducible refine LeO.ite ?_ ?_)
   | (with_reducible refine LeO.bind ?_ (fun _ => ?_))
   | exact ih0 _ _ _
   | exact spec_AreArticles.mono _ _
   | exact LeO.none _
   | refine LeO.ite ?_ ?_
   | refine LeO.bind ?_ (fun _ => ?_)
theorem spec_l03Code.mono : ∀ a0 a1 k, LeO (spec_l03Code.f k a0 a1) (spec_l03Code.f (k + 1) a0 a1) := by
 intro a0 a1 k
 have ih0 := spec_l03Code.mono_l k
 unfold spec_l03Code.f
 repeat' first
   | (with_reducible exact ih0 _ _ _)
   | (with_reducible exact spec_AreArticles.mono _ _)
   | (with_reducible exact LeO.refl _)
   | (with_reducible exact LeO.none _)
   | (with_reducible refine LeO.ite ?_ ?_)
   | (with_reducible refine LeO.bind ?_ (fun _ => ?_))
   | exact ih0 _ _ _
   | exact spec_AreArticles.mono _ _
   | exact LeO.none _
   | refine LeO.ite ?_ ?_
   | refine LeO.bind ?_ (fun _ => ?_)
set_option maxHeartbeats 8000000 in
set_option maxRecDepth 100000 in
theorem spec_l03Code.calls (k : Nat) (A0 : Option Addr) (c0 : Nat) (l0 : List (S65)) (A1 : Option Addr) (c1 : Nat) (l1 : List Int) (r : Int) (w : World) (hr0 : Kd.C k65 w A0 l0.length l0) (hc0 : l0.length ≤ c0) (hr1 : Kd.C (Kd.int .i64) w A1 l1.length l1) (hc1 : l1.length ≤ c1) (h : spec_l03Code.f k l0 l1 = some r) :
  Calls Try.prog 59 #[.slice A0 l0.length c0, .slice A1 l1.length c1] w fun e w' => e = .returned (.int .i64 r) ∧ Below w.heap.size w w' := by
 have HR0 := jB hr0
 have HC0 := jB hc0
 clear hr0 hc0
 have HR1 := jB hr1
 have HC1 := jB hc1
 clear hr1 hc1
 have HB := jB (Below.refl w.heap.size w)
 have H : ((spec_AreArticles.f k l0).bind fun t193 => (if t193 = true then (spec_l03Code.l0 k l0 l1 0) else (some 1))) = some r := h
 clear h
 replace H := jP.mp H
 obtain ⟨t193, A30, H⟩ := H
 replace H : (if t193 = true then (spec_l03Code.l0 k l0 l1 0) else (some 1)) = some r := H
 have A3 := jB A30
 clear A30
 by_cases c4 : t193 = true
 ·subst c4
  have H1 : (spec_l03Code.l0 k l0 l1 0) = some r := by rw [if_pos rfl] at H; exact H
  clear H
  have H := H1
  clear H1
  have H' := jB H
  clear H
  go_enter Try.func59, Try.ntmps59
  go_wp2_with (first | ((with_reducible refine jW (f := 83) rfl ?_); refine goesL_ (some 7) rfl rfl Try.func83 zr rfl #[.slice A0 l0.length c0] rfl zm ?_; (with_reducible refine (spec_AreArticles.calls k _ _ l0 true _ ?side1 ?side2 A3.out).mono ?_); (case side1 => repeat (first | exact HR0.out | (with_reducible refine Kd.C_alloc ?_ _) | (with_reducible refine Kd.C_drewN ?_ _) | (with_reducible refine Kd.C_drew ?_))); (case side2 => exact HC0.out); rintro e w5 ⟨rfl, hb⟩; refine ⟨_, rfl, ?_⟩; have n0_ := jB (jK (zb0 HB) hb); clear HB; have HB := n0_; clear n0_; (try clear hb); (try clear hb2); (try clear hk); (try clear hi)))
  go_loopg [5] k (fun kq v5 w' => ∃ (x5_1 : Int), v5 = .int .i64 x5_1 ∧ Aside0 (spec_l03Code.l0 kq l0 l1 x5_1 = some r) ∧ Aside0 (kq ≤ k) ∧ Aside0 (Below w.heap.size w w'))
  case atStart => exact ⟨(0), zz, H', ⟨Nat.le_refl _⟩, ⟨zb0 HB⟩⟩
  case round =>
   clear H'
   try clear c1
   try clear p2
   try clear c4
   try clear c5
   obtain ⟨x5_1, rfl, HA, HK1, HB⟩ := hrel
   cases gk with
   | zero => exact absurd HA.out (by simp [spec_l03Code.l0])
   | succ k1 =>
    have H := HA.out
    clear HA
    simp only [spec_l03Code.l0] at H
    by_cases c6 : x5_1 < (l1.length : Int)
    ·rw [if_pos c6] at H
     have c6b0 : decide (x5_1 < (l1.length : Int)) = true := jR c6
     clear c6
     by_cases c7 : 0 ≤ x5_1
     ·rw [if_pos c7] at H
      have c7b0 : decide (0 ≤ x5_1) = true := jR c7
      clear c7
      replace H := jP.mp H
      obtain ⟨t195, A80, H⟩ := H
      replace H : (if t195 = true then (spec_l03Code.l0 k1 l0 l1 (wrap64 (x5_1 + 1))) else (some 2)) = some r := H
      have A8 := jB A80
      clear A80
      by_cases c9 : t195 = true
      ·subst c9
       have H1 : (spec_l03Code.l0 k1 l0 l1 (wrap64 (x5_1 + 1))) = some r := by rw [if_pos rfl] at H; exact H
       clear H
       have H := H1
       clear H1
       have H' := jB H
       clear H
       have p194 : 0 ≤ (x5_1 : Int) := jE za
       have q194 : x5_1 < (l1.length : Int) := jE za
       obtain ⟨ad194, e194, hx194_0⟩ := Kd.at_int HR1.out x5_1 p194 q194
       cases e194
       replace hx194_0 := (HB.out.cell (jA w _ hx194_0)).trans hx194_0
       replace p194 := eq_true p194
       replace q194 := eq_true q194
       go_wp2_with (first | ((with_reducible refine jW (f := 58) rfl ?_); refine goesL_ (some 19) rfl rfl Try.func58 zr rfl #[.int .i64 (rd l1 x5_1), .int .i64 0, .int .i64 1000] rfl zm ?_; (with_reducible refine (spec_l01In.calls (rd l1 x5_1) 0 1000 true _ A8.out).mono ?_); rintro e w' ⟨rfl, ⟨nd, rfl⟩⟩; refine ⟨_, rfl, ?_⟩))
       go_roundg k1
       case measure => have := HK1.out; omega
       case rel => exact ⟨(wrap64 (x5_1 + 1)), zz, H', ⟨by have := HK1.out; omega⟩, ⟨zb0 HB⟩⟩
      ·replace c9 := Bool.eq_false_iff.mpr c9
       subst c9
       have H1 : (some 2) = some r := by rw [if_neg (show ¬ (false = true) by decide)] at H; exact H
       clear H
       have H := H1
       clear H1
       obtain rfl := jN H
       have p194 : 0 ≤ (x5_1 : Int) := jE za
       have q194 : x5_1 < (l1.length : Int) := jE za
       obtain ⟨ad194, e194, hx194_0⟩ := Kd.at_int HR1.out x5_1 p194 q194
       cases e194
       replace hx194_0 := (HB.out.cell (jA w _ hx194_0)).trans hx194_0
       replace p194 := eq_true p194
       replace q194 := eq_true q194
       go_wp2_with (first | ((with_reducible refine jW (f := 58) rfl ?_); refine goesL_ (some 19) rfl rfl Try.func58 zr rfl #[.int .i64 (rd l1 x5_1), .int .i64 0, .int .i64 1000] rfl zm ?_; (with_reducible refine (spec_l01In.calls (rd l1 x5_1) 0 1000 false _ A8.out).mono ?_); rintro e w' ⟨rfl, ⟨nd, rfl⟩⟩; refine ⟨_, rfl, ?_⟩))
       go_ret
       exact ⟨by first | rfl | (simp [errW_none, errW_some] <;> rfl) | (simp [*, errW_none, errW_some] <;> rfl), zb0 HB⟩
     ·rw [if_neg c7] at H
      exact absurd H (by simp)
    ·rw [if_neg c6] at H
     have c6b0 : decide (x5_1 < (l1.length : Int)) = false := jZ c6
     clear c6
     by_cases c10 : (l1.length : Int) = (l0.length : Int)
     ·rw [if_pos c10] at H
      have c10b0 : ((l1.length : Int) == (l0.length : Int)) = true := beq_iff_eq.mpr c10
      have c10b1 : ((l1.length : Int) != (l0.length : Int)) = false := bne_eq_false_iff_eq.mpr c10
      have c10b2 : (l1.length == l0.length) = true := by first | simpa using c10 | (simp at c10 ⊢; omega)
      clear c10
      obtain rfl := jN H
      go_wp2
      go_ret
      exact ⟨by first | rfl | (simp [errW_none, errW_some] <;> rfl) | (simp [*, errW_none, errW_some] <;> rfl), zb0 HB⟩
     ·rw [if_neg c10] at H
      have c10b0 : ((l1.length : Int) == (l0.length : Int)) = false := beq_eq_false_iff_ne.mpr c10
      have c10b1 : ((l1.length : Int) != (l0.length : Int)) = true := bne_iff_ne.mpr c10
      have c10b2 : (l1.length == l0.length) = false := by first | simpa using c10 | (simp at c10 ⊢; omega)
      obtain rfl := jN H
      go_wp2
      go_ret
      exact ⟨by first | rfl | (simp [errW_none, errW_some] <;> rfl) | (simp [*, errW_none, errW_some] <;> rfl), zb0 HB⟩
 ·replace c4 := Bool.eq_false_iff.mpr c4
  subst c4
  have H1 : (some 1) = some r := by rw [if_neg (show ¬ (false = true) by decide)] at H; exact H
  clear H
  have H := H1
  clear H1
  obtain rfl := jN H
  go_enter Try.func59, Try.ntmps59
  go_wp2_with (first | ((with_reducible refine jW (f := 83) rfl ?_); refine goesL_ (some 7) rfl rfl Try.func83 zr rfl #[.slice A0 l0.length c0] rfl zm ?_; (with_reducible refine (spec_AreArticles.calls k _ _ l0 false _ ?side1 ?side2 A3.out).mono ?_); (case side1 => repeat (first | exact HR0.out | (with_reducible refine Kd.C_alloc ?_ _) | (with_reducible refine Kd.C_drewN ?_ _) | (with_reducible refine Kd.C_drew ?_))); (case side2 => exact HC0.out); rintro e w11 ⟨rfl, hb⟩; refine ⟨_, rfl, ?_⟩; have n0_ := jB (jK (zb0 HB) hb); clear HB; have HB := n0_; clear n0_; (try clear hb); (try clear hb2); (try clear hk); (try clear hi)))
  go_ret
  exact ⟨by first | rfl | (simp [errW_none, errW_some] <;> rfl) | (simp [*, errW_none, errW_some] <;> rfl), zb0 HB⟩

/-! ### spec_IsMagazine: function 25 -/
def spec_IsMagazine.f (k : Nat) (l0 : List (S65)) (a1_0 : Int) (l1_1 : List Int) : Option (Bool) := (spec_l01In.f a1_0 0 1000000000).bind fun t197 => (if t197 = true then ((spec_l03Code.f k l0 l1_1).bind fun t198 => (some (t198 == 0))) else (some false))
theorem spec_IsMagazine.mono : ∀ a0 a1 a2 k, LeO (spec_IsMagazine.f k a0 a1 a2) (spec_IsMagazine.f (k + 1) a0 a1 a2) := by
 intro a0 a1 a2 k
 unfold spec_IsMagazine.f
 repeat' first
   | (with_reducible exact spec_l03Code.mono _ _ _)
   | (with_reducible exact LeO.refl _)
   | (with_reducible exact LeO.none _)
   | (with_reducible refine LeO.ite ?_ ?_)
   | (with_reducible refine LeO.bind ?_ (fun _ => ?_))
   | exact spec_l03Code.mono _ _ _
   | exact LeO.none _
   | refine LeO.ite ?_ ?_
   | refine LeO.bind ?_ (fun _ => ?_)
set_option maxHeartbeats 8000000 in
set_option maxRecDepth 100000 in
theorem spec_IsMagazine.calls (k : Nat) (A0 : Option Addr) (c0 : Nat) (l0 : List (S65)) (a1_0 : Int) (A1_1 : Option Addr) (c1_1 : Nat) (l1_1 : List Int) (r : Bool) (w : World) (hr0 : Kd.C k65 w A0 l0.length l0) (hc0 : l0.length ≤ c0) (hr1_1 : Kd.C (Kd.int .i64) w A1_1 l1_1.length l1_1) (hc1_1 : l1_1.length ≤ c1_1) (h : spec_IsMagazine.f k l0 a1_0 l1_1 = some r) :
  Calls Try.prog 25 #[.slice A0 l0.length c0, .agg #[.int .i64 a1_0, .slice A1_1 l1_1.length c1_1]] w fun e w' => e = .returned (.bool r) ∧ Below w.heap.size w w' := by
 have hu28 := Try.underlying28
 have HR0 := jB hr0
 have HC0 := jB hc0
 clear hr0 hc0
 have HR1_1 := jB hr1_1
 have HC1_1 := jB hc1_1
 clear hr1_1 hc1_1
 have HB := jB (Below.refl w.heap.size w)
 have H : ((spec_l01In.f a1_0 0 1000000000).bind fun t197 => (if t197 = true then ((spec_l03Code.f k l0 l1_1).bind fun t198 => (some (t198 == 0))) else (some false))) = some r := h
 clear h
 replace H := jP.mp H
 obtain ⟨t197, A30, H⟩ := H
 replace H : (if t197 = true then ((spec_l03Code.f k l0 l1_1).bind fun t198 => (some (t198 == 0))) else (some false)) = some r := H
 have A3 := jB A30
 clear A30
 by_cases c4 : t197 = true
 ·subst c4
  have H1 : ((spec_l03Code.f k l0 l1_1).bind fun t198 => (some (t198 == 0))) = some r := by rw [if_pos rfl] at H; exact H
  clear H
  have H := H1
  clear H1
  replace H := jP.mp H
  obtain ⟨t198, A50, H⟩ := H
  replace H : (some (t198 == 0)) = some r := H
  have A5 := jB A50
  clear A50
  obtain rfl := jN H
  go_enter Try.func25, Try.ntmps25
  go_wp2_with (first | ((with_reducible refine jV (N := 3) rfl ?_); refine jU ?hg (N := 3) ?hd (cs := #[.int .i64 a1_0, .slice A1_1 l1_1.length c1_1]) (t := 28) ?hr ?_; (case hd => rfl); (case hg => rfl); (case hr => first | (go_simp; done) | (go_simp; rfl)); intro gb196 hg w6 hbox hb; have n0_ := jB (jK (zb0 HB) hb); have n1_ := jB (hbox); have n2_ := jB ((by rw [hg]; exact (jF (zb0 HB)) : w.heap.size ≤ gb196)); have n3_ := jB ((by rw [hg]; exact (jF (zb0 HB)) : w.heap.size ≤ gb196)); clear HB; have HB := n0_; have BK196 := n1_; have GW196 := n2_; have GE196 := n3_; clear n0_ n1_ n2_ n3_; clear hb hbox hg; have hcz7_0 : w6.cell? ⟨gb196, 0, none⟩ = some (.int .i64 a1_0) := (jC BK196.out 0).trans rfl; have hcz7_1 : w6.cell? ⟨gb196, 1, none⟩ = some (.slice A1_1 l1_1.length c1_1) := (jC BK196.out 1).trans rfl; have hfz7_0 := jD BK196.out 0; have hfz7_1 := jD BK196.out 1) | ((with_reducible refine jW (f := 58) rfl ?_); refine goesL_ (some 7) rfl rfl Try.func58 zr rfl #[.int .i64 a1_0, .int .i64 0, .int .i64 1000000000] rfl zm ?_; (with_reducible refine (spec_l01In.calls a1_0 0 1000000000 true _ A3.out).mono ?_); rintro e w' ⟨rfl, ⟨nd, rfl⟩⟩; refine ⟨_, rfl, ?_⟩) | (go_at_call 59; (with_reducible refine (spec_l03Code.calls k _ _ l0 _ _ l1_1 t198 _ ?side1 ?side2 ?side3 ?side4 A5.out).mono ?_); (case side1 => repeat (first | exact HR0.out | exact (Kd.C_below HR0.out (zb1 HB GE196)) | (with_reducible refine Kd.C_alloc ?_ _) | (with_reducible refine Kd.C_drewN ?_ _) | (with_reducible refine Kd.C_drew ?_))); (case side2 => exact HC0.out); (case side3 => repeat (first | exact HR1_1.out | exact (Kd.C_below HR1_1.out (zb1 HB GE196)) | (with_reducible refine Kd.C_alloc ?_ _) | (with_reducible refine Kd.C_drewN ?_ _) | (with_reducible refine Kd.C_drew ?_))); (case side4 => exact HC1_1.out); rintro e w8 ⟨rfl, hb⟩; have n0_ := jB (jO (g := gb196) (o := .cells #[.int .i64 a1_0, .slice A1_1 l1_1.length c1_1] 28 (0, 0)) (zk BK196) hb); have n1_ := jB (jK (zb1 HB GE196) hb); clear BK196; clear HB; have BK196 := n0_; have HB := n1_; clear n0_ n1_; (try clear hb); (try clear hb2); (try clear hk); (try clear hi)))
  go_ret
  exact ⟨by first | rfl | (simp [errW_none, errW_some] <;> rfl) | (simp [*, errW_none, errW_some] <;> rfl), zb1 HB GE196⟩
 ·replace c4 := Bool.eq_false_iff.mpr c4
  subst c4
  have H1 : (some false) = some r := by rw [if_neg (show ¬ (false = true) by decide)] at H; exact H
  clear H
  have H := H1
  clear H1
  obtain rfl := jN H
  go_enter Try.func25, Try.ntmps25
  go_wp2_with (first | ((with_reducible refine jV (N := 3) rfl ?_); refine jU ?hg (N := 3) ?hd (cs := #[.int .i64 a1_0, .slice A1_1 l1_1.length c1_1]) (t := 28) ?hr ?_; (case hd => rfl); (case hg => rfl); (case hr => first | (go_simp; done) | (go_simp; rfl)); intro gb196 hg w9 hbox hb; have n0_ := jB (jK (zb0 HB) hb); have n1_ := jB (hbox); have n2_ := jB ((by rw [hg]; exact (jF (zb0 HB)) : w.heap.size ≤ gb196)); have n3_ := jB ((by rw [hg]; exact (jF (zb0 HB)) : w.heap.size ≤ gb196)); clear HB; have HB := n0_; have BK196 := n1_; have GW196 := n2_; have GE196 := n3_; clear n0_ n1_ n2_ n3_; clear hb hbox hg; have hcz10_0 : w9.cell? ⟨gb196, 0, none⟩ = some (.int .i64 a1_0) := (jC BK196.out 0).trans rfl; have hcz10_1 : w9.cell? ⟨gb196, 1, none⟩ = some (.slice A1_1 l1_1.length c1_1) := (jC BK196.out 1).trans rfl; have hfz10_0 := jD BK196.out 0; have hfz10_1 := jD BK196.out 1) | ((with_reducible refine jW (f := 58) rfl ?_); refine goesL_ (some 7) rfl rfl Try.func58 zr rfl #[.int .i64 a1_0, .int .i64 0, .int .i64 1000000000] rfl zm ?_; (with_reducible refine (spec_l01In.calls a1_0 0 1000000000 false _ A3.out).mono ?_); rintro e w' ⟨rfl, ⟨nd, rfl⟩⟩; refine ⟨_, rfl, ?_⟩))
  go_ret
  exact ⟨by first | rfl | (simp [errW_none, errW_some] <;> rfl) | (simp [*, errW_none, errW_some] <;> rfl), zb1 HB GE196⟩

/-! ### spec_l26Net: function 63 -/
def spec_l26Net.l0 : Nat → List (S65) → Int → Int → Int → List Int → Option (Int)
 | 0, _, _, _, _, _ => none
 | k + 1, x0, x5, x6, x200000, x200001 => if x6 < (x0.length : Int) then (if 0 ≤ x6 then (if x6 < (x200001.length : Int) then (spec_l26Net.l0 k x0 (wrap64 (x5 + (wrap64 (((rd_T65 x0 x6).f7) * (rd x200001 x6))))) (wrap64 (x6 + 1)) x200000 x200001) else (none)) else (none)) else (some x5)
def spec_l26Net.f (k : Nat) (l0 : List (S65)) (a1_0 : Int) (l1_1 : List Int) : Option (Int) := spec_l26Net.l0 k l0 0 0 a1_0 l1_1
theorem spec_l26Net.mono_l : ∀ k, (∀ y0 y1 y2 y3 y4, LeO (spec_l26Net.l0 k y0 y1 y2 y3 y4) (spec_l26Net.l0 (k + 1) y0 y1 y2 y3 y4))
 | 0 => fun _ _ _ _ _ r h => by simp [spec_l26Net.l0] at h
 | k + 1 => by
  have ih0 := spec_l26Net.mono_l k
  ·intro y0 y1 y2 y3 y4
   unfold spec_l26Net.l0
   repeat' first
   | (with_reducible exact ih0 _ _ _ _ _)
   | (with_reducible exact LeO.refl _)
   | (with_reducible exact LeO.none _)
   | (with_reducible refine LeO.ite ?_ ?_)
   | (with_reducible refine LeO.bind ?_ (fun _ => ?_))
   | exact ih0 _ _ _ _ _
   | exact LeO.none _
   | refine LeO.ite ?_ ?_
   | refine LeO.bind ?_ (fun _ => ?_)
theorem spec_l26Net.mono : ∀ a0 a1 a2 k, LeO (spec_l26Net.f k a0 a1 a2) (spec_l26Net.f (k + 1) a0 a1 a2) := by
 intro a0 a1 a2 k
 have ih0 := spec_l26Net.mono_l k
 unfold spec_l26Net.f
 repeat' first
   | (with_reducible exact ih0 _ _ _ _ _)
   | (with_reducible exact LeO.refl _)
   | (with_reducible exact LeO.none _)
   | (with_reducible refine LeO.ite ?_ ?_)
   | (with_reducible refine LeO.bind ?_ (fun _ => ?_))
   | exact ih0 _ _ _ _ _
   | exact LeO.none _
   | refine LeO.ite ?_ ?_
   | refine LeO.bind ?_ (fun _ => ?_)
set_option maxHeartbeats 8000000 in
set_option maxRecDepth 100000 in
theorem spec_l26Net.calls (k : Nat) (A0 : Option Addr) (c0 : Nat) (l0 : List (S65)) (a1_0 : Int) (A1_1 : Option Addr) (c1_1 : Nat) (l1_1 : List Int) (r : Int) (w : World) (hr0 : Kd.C k65 w A0 l0.length l0) (hc0 : l0.length ≤ c0) (hr1_1 : Kd.C (Kd.int .i64) w A1_1 l1_1.length l1_1) (hc1_1 : l1_1.length ≤ c1_1) (h : spec_l26Net.f k l0 a1_0 l1_1 = some r) :
  Calls Try.prog 63 #[.slice A0 l0.length c0, .agg #[.int .i64 a1_0, .slice A1_1 l1_1.length c1_1]] w fun e w' => e = .returned (.int .i64 r) ∧ Below w.heap.size w w' := by
 have hu28 := Try.underlying28
 have HR0 := jB hr0
 have HC0 := jB hc0
 clear hr0 hc0
 have HR1_1 := jB hr1_1
 have HC1_1 := jB hc1_1
 clear hr1_1 hc1_1
 have HB := jB (Below.refl w.heap.size w)
 have H : (spec_l26Net.l0 k l0 0 0 a1_0 l1_1) = some r := h
 clear h
 have H' := jB H
 clear H
 go_enter Try.func63, Try.ntmps63
 go_wp2_with (first | ((with_reducible refine jV (N := 3) rfl ?_); refine jU ?hg (N := 3) ?hd (cs := #[.int .i64 a1_0, .slice A1_1 l1_1.length c1_1]) (t := 28) ?hr ?_; (case hd => rfl); (case hg => rfl); (case hr => first | (go_simp; done) | (go_simp; rfl)); intro gb199 hg w3 hbox hb; have n0_ := jB (jK (zb0 HB) hb); have n1_ := jB (hbox); have n2_ := jB ((by rw [hg]; exact (jF (zb0 HB)) : w.heap.size ≤ gb199)); have n3_ := jB ((by rw [hg]; exact (jF (zb0 HB)) : w.heap.size ≤ gb199)); clear HB; have HB := n0_; have BK199 := n1_; have GW199 := n2_; have GE199 := n3_; clear n0_ n1_ n2_ n3_; clear hb hbox hg))
 repeat (go_quiet (first | ((with_reducible refine jV (N := 3) rfl ?_); refine jU ?hg (N := 3) ?hd (cs := #[.int .i64 a1_0, .slice A1_1 l1_1.length c1_1]) (t := 28) ?hr ?_; (case hd => rfl); (case hg => rfl); (case hr => first | (go_simp; done) | (go_simp; rfl)); intro gb199 hg w3 hbox hb; have n0_ := jB (jK (zb0 HB) hb); have n1_ := jB (hbox); have n2_ := jB ((by rw [hg]; exact (jF (zb0 HB)) : w.heap.size ≤ gb199)); have n3_ := jB ((by rw [hg]; exact (jF (zb0 HB)) : w.heap.size ≤ gb199)); clear HB; have HB := n0_; have BK199 := n1_; have GW199 := n2_; have GE199 := n3_; clear n0_ n1_ n2_ n3_; clear hb hbox hg)); try go_wp2_with (first | ((with_reducible refine jV (N := 3) rfl ?_); refine jU ?hg (N := 3) ?hd (cs := #[.int .i64 a1_0, .slice A1_1 l1_1.length c1_1]) (t := 28) ?hr ?_; (case hd => rfl); (case hg => rfl); (case hr => first | (go_simp; done) | (go_simp; rfl)); intro gb199 hg w3 hbox hb; have n0_ := jB (jK (zb0 HB) hb); have n1_ := jB (hbox); have n2_ := jB ((by rw [hg]; exact (jF (zb0 HB)) : w.heap.size ≤ gb199)); have n3_ := jB ((by rw [hg]; exact (jF (zb0 HB)) : w.heap.size ≤ gb199)); clear HB; have HB := n0_; have BK199 := n1_; have GW199 := n2_; have GE199 := n3_; clear n0_ n1_ n2_ n3_; clear hb hbox hg)))
 go_loopg [5, 6] k (fun kq v5 v6 w' => ∃ (x5_1 : Int) (x6_1 : Int), v5 = .int .i64 x5_1 ∧ v6 = .int .i64 x6_1 ∧ Aside0 (spec_l26Net.l0 kq l0 x5_1 x6_1 a1_0 l1_1 = some r) ∧ Aside0 (kq ≤ k) ∧ Aside0 (w'.heap[gb199]? = some (.cells #[.int .i64 a1_0, (.slice A1_1 l1_1.length c1_1)] 28 (0, 0))) ∧ Aside0 (Below w.heap.size w w'))
 case atStart => exact ⟨(0), (0), zz, zz, H', ⟨Nat.le_refl _⟩, ⟨by (with_reducible repeat (first | refine jG ?_ _ | refine jI ?_ | refine jH ?_ _)); exact BK199.out⟩, ⟨zb1 HB GE199⟩⟩
 case round =>
  clear H'
  try clear c1
  try clear p2
  obtain ⟨x5_1, x6_1, rfl, rfl, HA, HK1, BK199, HB⟩ := hrel
  cases gk with
  | zero => exact absurd HA.out (by simp [spec_l26Net.l0])
  | succ k1 =>
   have H := HA.out
   clear HA
   simp only [spec_l26Net.l0] at H
   by_cases c4 : x6_1 < (l0.length : Int)
   ·rw [if_pos c4] at H
    have c4b0 : decide (x6_1 < (l0.length : Int)) = true := jR c4
    clear c4
    by_cases c5 : 0 ≤ x6_1
    ·rw [if_pos c5] at H
     have c5b0 : decide (0 ≤ x6_1) = true := jR c5
     clear c5
     by_cases c6 : x6_1 < (l1_1.length : Int)
     ·rw [if_pos c6] at H
      have c6b0 : decide (x6_1 < (l1_1.length : Int)) = true := jR c6
      clear c6
      have H' := jB H
      clear H
      have p200 : 0 ≤ (x6_1 : Int) := jE za
      have q200 : x6_1 < (l0.length : Int) := jE za
      obtain ⟨ad200, e200, hx200_0, hx200_1, hx200_2, hx200_3, hx200_4, hx200_5, hx200_6, hx200_7, hx200_8⟩ := at_T65 HR0.out x6_1 p200 q200
      cases e200
      replace hx200_0 := (HB.out.cell (jA w _ hx200_0)).trans hx200_0
      replace hx200_1 := (HB.out.cell (jA w _ hx200_1)).trans hx200_1
      replace hx200_2 := (HB.out.cell (jA w _ hx200_2)).trans hx200_2
      replace hx200_3 := (HB.out.cell (jA w _ hx200_3)).trans hx200_3
      replace hx200_4 := (HB.out.cell (jA w _ hx200_4)).trans hx200_4
      replace hx200_5 := (HB.out.cell (jA w _ hx200_5)).trans hx200_5
      replace hx200_6 := (HB.out.cell (jA w _ hx200_6)).trans hx200_6
      replace hx200_7 := (HB.out.cell (jA w _ hx200_7)).trans hx200_7
      replace hx200_8 := (HB.out.cell (jA w _ hx200_8)).trans hx200_8
      replace p200 := eq_true p200
      replace q200 := eq_true q200
      have hcz7_0 : wr.cell? ⟨gb199, 0, none⟩ = some (.int .i64 a1_0) := (jC BK199.out 0).trans rfl
      have hcz7_1 : wr.cell? ⟨gb199, 1, none⟩ = some (.slice A1_1 l1_1.length c1_1) := (jC BK199.out 1).trans rfl
      have hfz7_0 := jD BK199.out 0
      have hfz7_1 := jD BK199.out 1
      have p201 : 0 ≤ (x6_1 : Int) := jE za
      have q201 : x6_1 < (l1_1.length : Int) := jE za
      obtain ⟨ad201, e201, hx201_0⟩ := Kd.at_int HR1_1.out x6_1 p201 q201
      cases e201
      replace hx201_0 := (HB.out.cell (jA w _ hx201_0)).trans hx201_0
      replace p201 := eq_true p201
      replace q201 := eq_true q201
      go_wp2
      repeat (go_quiet (fail); try go_wp2)
      go_roundg k1
      case measure => have := HK1.out; omega
      case rel => exact ⟨(wrap64 (x5_1 + (wrap64 (((rd_T65 l0 x6_1).f7) * (rd l1_1 x6_1))))), (wrap64 (x6_1 + 1)), zz, zz, H', ⟨by have := HK1.out; omega⟩, ⟨by (with_reducible repeat (first | refine jG ?_ _ | refine jI ?_ | refine jH ?_ _)); exact BK199.out⟩, ⟨zb1 HB GE199⟩⟩
     ·rw [if_neg c6] at H
      exact absurd H (by simp)
    ·rw [if_neg c5] at H
     exact absurd H (by simp)
   ·rw [if_neg c4] at H
    have c4b0 : decide (x6_1 < (l0.length : Int)) = false := jZ c4
    clear c4
    obtain rfl := jN H
    go_wp2
    repeat (go_quiet (fail); try go_wp2)
    go_ret
    exact ⟨by first | rfl | (simp [errW_none, errW_some] <;> rfl) | (simp [*, errW_none, errW_some] <;> rfl), zb1 HB GE199⟩

/-! ### spec_l26Mixed: function 67 -/
def spec_l26Mixed.l0 : Nat → List (S65) → Bool → Bool → Int → Int → List Int → Option (Bool)
 | 0, _, _, _, _, _, _ => none
 | k + 1, x0, x5, x6, x7, x203000, x203001 => if x7 < (x0.length : Int) then (if 0 ≤ x7 then (if x7 < (x203001.length : Int) then (if (rd x203001 x7) > 0 then (if x5 = true then (if x6 = true then (spec_l26Mixed.l0 k x0 true true (wrap64 (x7 + 1)) x203000 x203001) else (spec_l26Mixed.l0 k x0 true (((rd_T65 x0 x7).f8) != 3) (wrap64 (x7 + 1)) x203000 x203001)) else (if x6 = true then (spec_l26Mixed.l0 k x0 (((rd_T65 x0 x7).f8) == 3) true (wrap64 (x7 + 1)) x203000 x203001) else (spec_l26Mixed.l0 k x0 (((rd_T65 x0 x7).f8) == 3) (((rd_T65 x0 x7).f8) != 3) (wrap64 (x7 + 1)) x203000 x203001))) else (spec_l26Mixed.l0 k x0 x5 x6 (wrap64 (x7 + 1)) x203000 x203001)) else (none)) else (none)) else (if x5 = true then (some x6) else (some false))
def spec_l26Mixed.f (k : Nat) (l0 : List (S65)) (a1_0 : Int) (l1_1 : List Int) : Option (Bool) := spec_l26Mixed.l0 k l0 false false 0 a1_0 l1_1
theorem spec_l26Mixed.mono_l : ∀ k, (∀ y0 y1 y2 y3 y4 y5, LeO (spec_l26Mixed.l0 k y0 y1 y2 y3 y4 y5) (spec_l26Mixed.l0 (k + 1) y0 y1 y2 y3 y4 y5))
 | 0 => fun _ _ _ _ _ _ r h => by simp [spec_l26Mixed.l0] at h
 | k + 1 => by
  have ih0 := spec_l26Mixed.mono_l k
  ·intro y0 y1 y2 y3 y4 y5
   unfold spec_l26Mixed.l0
   repeat' first
   | (with_reducible exact ih0 _ _ _ _ _ _)
   | (with_reducible exact LeO.refl _)
   | (with_reducible exact LeO.none _)
   | (with_reducible refine LeO.ite ?_ ?_)
   | (with_reducible refine LeO.bind ?_ (fun _ => ?_))
   | exact ih0 _ _ _ _ _ _
   | exact LeO.none _
   | refine LeO.ite ?_ ?_
   | refine LeO.bind ?_ (fun _ => ?_)
theorem spec_l26Mixed.mono : ∀ a0 a1 a2 k, LeO (spec_l26Mixed.f k a0 a1 a2) (spec_l26Mixed.f (k + 1) a0 a1 a2) := by
 intro a0 a1 a2 k
 have ih0 := spec_l26Mixed.mono_l k
 unfold spec_l26Mixed.f
 repeat' first
   | (with_reducible exact ih0 _ _ _ _ _ _)
   | (with_reducible exact LeO.refl _)
   | (with_reducible exact LeO.none _)
   | (with_reducible refine LeO.ite ?_ ?_)
   | (with_reducible refine LeO.bind ?_ (fun _ => ?_))
   | exact ih0 _ _ _ _ _ _
   | exact LeO.none _
   | refine LeO.ite ?_ ?_
   | refine LeO.bind ?_ (fun _ => ?_)
set_option maxHeartbeats 8000000 in
set_option maxRecDepth 100000 in
theorem spec_l26Mixed.calls (k : Nat) (A0 : Option Addr) (c0 : Nat) (l0 : List (S65)) (a1_0 : Int) (A1_1 : Option Addr) (c1_1 : Nat) (l1_1 : List Int) (r : Bool) (w : World) (hr0 : Kd.C k65 w A0 l0.length l0) (hc0 : l0.length ≤ c0) (hr1_1 : Kd.C (Kd.int .i64) w A1_1 l1_1.length l1_1) (hc1_1 : l1_1.length ≤ c1_1) (h : spec_l26Mixed.f k l0 a1_0 l1_1 = some r) :
  Calls Try.prog 67 #[.slice A0 l0.length c0, .agg #[.int .i64 a1_0, .slice A1_1 l1_1.length c1_1]] w fun e w' => e = .returned (.bool r) ∧ Below w.heap.size w w' := by
 have hu28 := Try.underlying28
 have HR0 := jB hr0
 have HC0 := jB hc0
 clear hr0 hc0
 have HR1_1 := jB hr1_1
 have HC1_1 := jB hc1_1
 clear hr1_1 hc1_1
 have HB := jB (Below.refl w.heap.size w)
 have H : (spec_l26Mixed.l0 k l0 false false 0 a1_0 l1_1) = some r := h
 clear h
 have H' := jB H
 clear H
 go_enter Try.func67, Try.ntmps67
 go_wp2_with (first | ((with_reducible refine jV (N := 3) rfl ?_); refine jU ?hg (N := 3) ?hd (cs := #[.int .i64 a1_0, .slice A1_1 l1_1.length c1_1]) (t := 28) ?hr ?_; (case hd => rfl); (case hg => rfl); (case hr => first | (go_simp; done) | (go_simp; rfl)); intro gb202 hg w3 hbox hb; have n0_ := jB (jK (zb0 HB) hb); have n1_ := jB (hbox); have n2_ := jB ((by rw [hg]; exact (jF (zb0 HB)) : w.heap.size ≤ gb202)); have n3_ := jB ((by rw [hg]; exact (jF (zb0 HB)) : w.heap.size ≤ gb202)); clear HB; have HB := n0_; have BK202 := n1_; have GW202 := n2_; have GE202 := n3_; clear n0_ n1_ n2_ n3_; clear hb hbox hg))
 go_loopg [5, 6, 7] k (fun kq v5 v6 v7 w' => ∃ (x5_1 : Bool) (x6_1 : Bool) (x7_1 : Int), v5 = .bool x5_1 ∧ v6 = .bool x6_1 ∧ v7 = .int .i64 x7_1 ∧ Aside0 (spec_l26Mixed.l0 kq l0 x5_1 x6_1 x7_1 a1_0 l1_1 = some r) ∧ Aside0 (kq ≤ k) ∧ Aside0 (w'.heap[gb202]? = some (.cells #[.int .i64 a1_0, (.slice A1_1 l1_1.length c1_1)] 28 (0, 0))) ∧ Aside0 (Below w.heap.size w w'))
 case atStart => exact ⟨(false), (false), (0), zz, zz, zz, H', ⟨Nat.le_refl _⟩, ⟨by (with_reducible repeat (first | refine jG ?_ _ | refine jI ?_ | refine jH ?_ _)); exact BK202.out⟩, ⟨zb1 HB GE202⟩⟩
 case round =>
  clear H'
  try clear c1
  try clear p2
  obtain ⟨x5_1, x6_1, x7_1, rfl, rfl, rfl, HA, HK1, BK202, HB⟩ := hrel
  cases gk with
  | zero => exact absurd HA.out (by simp [spec_l26Mixed.l0])
  | succ k1 =>
   have H := HA.out
   clear HA
   simp only [spec_l26Mixed.l0] at H
   by_cases c4 : x7_1 < (l0.length : Int)
   ·rw [if_pos c4] at H
    have c4b0 : decide (x7_1 < (l0.length : Int)) = true := jR c4
    clear c4
    by_cases c5 : 0 ≤ x7_1
    ·rw [if_pos c5] at H
     have c5b0 : decide (0 ≤ x7_1) = true := jR c5
     clear c5
     by_cases c6 : x7_1 < (l1_1.length : Int)
     ·rw [if_pos c6] at H
      have c6b0 : decide (x7_1 < (l1_1.length : Int)) = true := jR c6
      clear c6
      by_cases c7 : (rd l1_1 x7_1) > 0
      ·rw [if_pos c7] at H
       have c7b0 : decide (0 < (rd l1_1 x7_1)) = true := jR c7
       clear c7
       by_cases c8 : x5_1 = true
       ·subst c8
        have H1 : (if x6_1 = true then (spec_l26Mixed.l0 k1 l0 true true (wrap64 (x7_1 + 1)) a1_0 l1_1) else (spec_l26Mixed.l0 k1 l0 true (((rd_T65 l0 x7_1).f8) != 3) (wrap64 (x7_1 + 1)) a1_0 l1_1)) = some r := by rw [if_pos rfl] at H; exact H
        clear H
        have H := H1
        clear H1
        by_cases c9 : x6_1 = true
        ·subst c9
         have H1 : (spec_l26Mixed.l0 k1 l0 true true (wrap64 (x7_1 + 1)) a1_0 l1_1) = some r := by rw [if_pos rfl] at H; exact H
         clear H
         have H := H1
         clear H1
         have H' := jB H
         clear H
         have hcz10_0 : wr.cell? ⟨gb202, 0, none⟩ = some (.int .i64 a1_0) := (jC BK202.out 0).trans rfl
         have hcz10_1 : wr.cell? ⟨gb202, 1, none⟩ = some (.slice A1_1 l1_1.length c1_1) := (jC BK202.out 1).trans rfl
         have hfz10_0 := jD BK202.out 0
         have hfz10_1 := jD BK202.out 1
         have p203 : 0 ≤ (x7_1 : Int) := jE za
         have q203 : x7_1 < (l1_1.length : Int) := jE za
         obtain ⟨ad203, e203, hx203_0⟩ := Kd.at_int HR1_1.out x7_1 p203 q203
         cases e203
         replace hx203_0 := (HB.out.cell (jA w _ hx203_0)).trans hx203_0
         replace p203 := eq_true p203
         replace q203 := eq_true q203
         go_wp2
         go_roundg k1
         case measure => have := HK1.out; omega
         case rel => exact ⟨(true), (true), (wrap64 (x7_1 + 1)), zz, zz, zz, H', ⟨by have := HK1.out; omega⟩, ⟨by (with_reducible repeat (first | refine jG ?_ _ | refine jI ?_ | refine jH ?_ _)); exact BK202.out⟩, ⟨zb1 HB GE202⟩⟩
        ·replace c9 := Bool.eq_false_iff.mpr c9
         subst c9
         have H1 : (spec_l26Mixed.l0 k1 l0 true (((rd_T65 l0 x7_1).f8) != 3) (wrap64 (x7_1 + 1)) a1_0 l1_1) = some r := by rw [if_neg (show ¬ (false = true) by decide)] at H; exact H
         clear H
         have H := H1
         clear H1
         have H' := jB H
         clear H
         have hcz11_0 : wr.cell? ⟨gb202, 0, none⟩ = some (.int .i64 a1_0) := (jC BK202.out 0).trans rfl
         have hcz11_1 : wr.cell? ⟨gb202, 1, none⟩ = some (.slice A1_1 l1_1.length c1_1) := (jC BK202.out 1).trans rfl
         have hfz11_0 := jD BK202.out 0
         have hfz11_1 := jD BK202.out 1
         have p203 : 0 ≤ (x7_1 : Int) := jE za
         have q203 : x7_1 < (l1_1.length : Int) := jE za
         obtain ⟨ad203, e203, hx203_0⟩ := Kd.at_int HR1_1.out x7_1 p203 q203
         cases e203
         replace hx203_0 := (HB.out.cell (jA w _ hx203_0)).trans hx203_0
         replace p203 := eq_true p203
         replace q203 := eq_true q203
         have p204 : 0 ≤ (x7_1 : Int) := jE za
         have q204 : x7_1 < (l0.length : Int) := jE za
         obtain ⟨ad204, e204, hx204_0, hx204_1, hx204_2, hx204_3, hx204_4, hx204_5, hx204_6, hx204_7, hx204_8⟩ := at_T65 HR0.out x7_1 p204 q204
         cases e204
         replace hx204_0 := (HB.out.cell (jA w _ hx204_0)).trans hx204_0
         replace hx204_1 := (HB.out.cell (jA w _ hx204_1)).trans hx204_1
         replace hx204_2 := (HB.out.cell (jA w _ hx204_2)).trans hx204_2
         replace hx204_3 := (HB.out.cell (jA w _ hx204_3)).trans hx204_3
         replace hx204_4 := (HB.out.cell (jA w _ hx204_4)).trans hx204_4
         replace hx204_5 := (HB.out.cell (jA w _ hx204_5)).trans hx204_5
         replace hx204_6 := (HB.out.cell (jA w _ hx204_6)).trans hx204_6
         replace hx204_7 := (HB.out.cell (jA w _ hx204_7)).trans hx204_7
         replace hx204_8 := (HB.out.cell (jA w _ hx204_8)).trans hx204_8
         replace p204 := eq_true p204
         replace q204 := eq_true q204
         go_wp2
         go_roundg k1
         case measure => have := HK1.out; omega
         case rel => exact ⟨(true), ((((rd_T65 l0 x7_1).f8) != 3)), (wrap64 (x7_1 + 1)), zz, zz, zz, H', ⟨by have := HK1.out; omega⟩, ⟨by (with_reducible repeat (first | refine jG ?_ _ | refine jI ?_ | refine jH ?_ _)); exact BK202.out⟩, ⟨zb1 HB GE202⟩⟩
       ·replace c8 := Bool.eq_false_iff.mpr c8
        subst c8
        have H1 : (if x6_1 = true then (spec_l26Mixed.l0 k1 l0 (((rd_T65 l0 x7_1).f8) == 3) true (wrap64 (x7_1 + 1)) a1_0 l1_1) else (spec_l26Mixed.l0 k1 l0 (((rd_T65 l0 x7_1).f8) == 3) (((rd_T65 l0 x7_1).f8) != 3) (wrap64 (x7_1 + 1)) a1_0 l1_1)) = some r := by rw [if_neg (show ¬ (false = true) by decide)] at H; exact H
        clear H
        have H := H1
        clear H1
        by_cases c12 : x6_1 = true
        ·subst c12
         have H1 : (spec_l26Mixed.l0 k1 l0 (((rd_T65 l0 x7_1).f8) == 3) true (wrap64 (x7_1 + 1)) a1_0 l1_1) = some r := by rw [if_pos rfl] at H; exact H
         clear H
         have H := H1
         clear H1
         have H' := jB H
         clear H
         have hcz13_0 : wr.cell? ⟨gb202, 0, none⟩ = some (.int .i64 a1_0) := (jC BK202.out 0).trans rfl
         have hcz13_1 : wr.cell? ⟨gb202, 1, none⟩ = some (.slice A1_1 l1_1.length c1_1) := (jC BK202.out 1).trans rfl
         have hfz13_0 := jD BK202.out 0
         have hfz13_1 := jD BK202.out 1
         have p203 : 0 ≤ (x7_1 : Int) := jE za
         have q203 : x7_1 < (l1_1.length : Int) := jE za
         obtain ⟨ad203, e203, hx203_0⟩ := Kd.at_int HR1_1.out x7_1 p203 q203
         cases e203
         replace hx203_0 := (HB.out.cell (jA w _ hx203_0)).trans hx203_0
         replace p203 := eq_true p203
         replace q203 := eq_true q203
         have p205 : 0 ≤ (x7_1 : Int) := jE za
         have q205 : x7_1 < (l0.length : Int) := jE za
         obtain ⟨ad205, e205, hx205_0, hx205_1, hx205_2, hx205_3, hx205_4, hx205_5, hx205_6, hx205_7, hx205_8⟩ := at_T65 HR0.out x7_1 p205 q205
         cases e205
         replace hx205_0 := (HB.out.cell (jA w _ hx205_0)).trans hx205_0
         replace hx205_1 := (HB.out.cell (jA w _ hx205_1)).trans hx205_1
         replace hx205_2 := (HB.out.cell (jA w _ hx205_2)).trans hx205_2
         replace hx205_3 := (HB.out.cell (jA w _ hx205_3)).trans hx205_3
         replace hx205_4 := (HB.out.cell (jA w _ hx205_4)).trans hx205_4
         replace hx205_5 := (HB.out.cell (jA w _ hx205_5)).trans hx205_5
         replace hx205_6 := (HB.out.cell (jA w _ hx205_6)).trans hx205_6
         replace hx205_7 := (HB.out.cell (jA w _ hx205_7)).trans hx205_7
         replace hx205_8 := (HB.out.cell (jA w _ hx205_8)).trans hx205_8
         replace p205 := eq_true p205
         replace q205 := eq_true q205
         go_wp2
         go_roundg k1
         case measure => have := HK1.out; omega
         case rel => exact ⟨((((rd_T65 l0 x7_1).f8) == 3)), (true), (wrap64 (x7_1 + 1)), zz, zz, zz, H', ⟨by have := HK1.out; omega⟩, ⟨by (with_reducible repeat (first | refine jG ?_ _ | refine jI ?_ | refine jH ?_ _)); exact BK202.out⟩, ⟨zb1 HB GE202⟩⟩
        ·replace c12 := Bool.eq_false_iff.mpr c12
         subst c12
         have H1 : (spec_l26Mixed.l0 k1 l0 (((rd_T65 l0 x7_1).f8) == 3) (((rd_T65 l0 x7_1).f8) != 3) (wrap64 (x7_1 + 1)) a1_0 l1_1) = some r := by rw [if_neg (show ¬ (false = true) by decide)] at H; exact H
         clear H
         have H := H1
         clear H1
         have H' := jB H
         clear H
         have hcz14_0 : wr.cell? ⟨gb202, 0, none⟩ = some (.int .i64 a1_0) := (jC BK202.out 0).trans rfl
         have hcz14_1 : wr.cell? ⟨gb202, 1, none⟩ = some (.slice A1_1 l1_1.length c1_1) := (jC BK202.out 1).trans rfl
         have hfz14_0 := jD BK202.out 0
         have hfz14_1 := jD BK202.out 1
         have p203 : 0 ≤ (x7_1 : Int) := jE za
         have q203 : x7_1 < (l1_1.length : Int) := jE za
         obtain ⟨ad203, e203, hx203_0⟩ := Kd.at_int HR1_1.out x7_1 p203 q203
         cases e203
         replace hx203_0 := (HB.out.cell (jA w _ hx203_0)).trans hx203_0
         replace p203 := eq_true p203
         replace q203 := eq_true q203
         have p205 : 0 ≤ (x7_1 : Int) := jE za
         have q205 : x7_1 < (l0.length : Int) := jE za
         obtain ⟨ad205, e205, hx205_0, hx205_1, hx205_2, hx205_3, hx205_4, hx205_5, hx205_6, hx205_7, hx205_8⟩ := at_T65 HR0.out x7_1 p205 q205
         cases e205
         replace hx205_0 := (HB.out.cell (jA w _ hx205_0)).trans hx205_0
         replace hx205_1 := (HB.out.cell (jA w _ hx205_1)).trans hx205_1
         replace hx205_2 := (HB.out.cell (jA w _ hx205_2)).trans hx205_2
         replace hx205_3 := (HB.out.cell (jA w _ hx205_3)).trans hx205_3
         replace hx205_4 := (HB.out.cell (jA w _ hx205_4)).trans hx205_4
         replace hx205_5 := (HB.out.cell (jA w _ hx205_5)).trans hx205_5
         replace hx205_6 := (HB.out.cell (jA w _ hx205_6)).trans hx205_6
         replace hx205_7 := (HB.out.cell (jA w _ hx205_7)).trans hx205_7
         replace hx205_8 := (HB.out.cell (jA w _ hx205_8)).trans hx205_8
         replace p205 := eq_true p205
         replace q205 := eq_true q205
         have p206 : 0 ≤ (x7_1 : Int) := jE za
         have q206 : x7_1 < (l0.length : Int) := jE za
         obtain ⟨ad206, e206, hx206_0, hx206_1, hx206_2, hx206_3, hx206_4, hx206_5, hx206_6, hx206_7, hx206_8⟩ := at_T65 HR0.out x7_1 p206 q206
         obtain rfl : ad205 = ad206 := (by injection e206)
         replace hx206_0 := (HB.out.cell (jA w _ hx206_0)).trans hx206_0
         replace hx206_1 := (HB.out.cell (jA w _ hx206_1)).trans hx206_1
         replace hx206_2 := (HB.out.cell (jA w _ hx206_2)).trans hx206_2
         replace hx206_3 := (HB.out.cell (jA w _ hx206_3)).trans hx206_3
         replace hx206_4 := (HB.out.cell (jA w _ hx206_4)).trans hx206_4
         replace hx206_5 := (HB.out.cell (jA w _ hx206_5)).trans hx206_5
         replace hx206_6 := (HB.out.cell (jA w _ hx206_6)).trans hx206_6
         replace hx206_7 := (HB.out.cell (jA w _ hx206_7)).trans hx206_7
         replace hx206_8 := (HB.out.cell (jA w _ hx206_8)).trans hx206_8
         replace p206 := eq_true p206
         replace q206 := eq_true q206
         go_wp2
         go_roundg k1
         case measure => have := HK1.out; omega
         case rel => exact ⟨((((rd_T65 l0 x7_1).f8) == 3)), ((((rd_T65 l0 x7_1).f8) != 3)), (wrap64 (x7_1 + 1)), zz, zz, zz, H', ⟨by have := HK1.out; omega⟩, ⟨by (with_reducible repeat (first | refine jG ?_ _ | refine jI ?_ | refine jH ?_ _)); exact BK202.out⟩, ⟨zb1 HB GE202⟩⟩
      ·rw [if_neg c7] at H
       have c7b0 : decide (0 < (rd l1_1 x7_1)) = false := jZ c7
       clear c7
       have H' := jB H
       clear H
       have hcz15_0 : wr.cell? ⟨gb202, 0, none⟩ = some (.int .i64 a1_0) := (jC BK202.out 0).trans rfl
       have hcz15_1 : wr.cell? ⟨gb202, 1, none⟩ = some (.slice A1_1 l1_1.length c1_1) := (jC BK202.out 1).trans rfl
       have hfz15_0 := jD BK202.out 0
       have hfz15_1 := jD BK202.out 1
       have p203 : 0 ≤ (x7_1 : Int) := jE za
       have q203 : x7_1 < (l1_1.length : Int) := jE za
       obtain ⟨ad203, e203, hx203_0⟩ := Kd.at_int HR1_1.out x7_1 p203 q203
       cases e203
       replace hx203_0 := (HB.out.cell (jA w _ hx203_0)).trans hx203_0
       replace p203 := eq_true p203
       replace q203 := eq_true q203
       go_wp2
       go_roundg k1
       case measure => have := HK1.out; omega
       case rel => exact ⟨(x5_1), (x6_1), (wrap64 (x7_1 + 1)), zz, zz, zz, H', ⟨by have := HK1.out; omega⟩, ⟨by (with_reducible repeat (first | refine jG ?_ _ | refine jI ?_ | refine jH ?_ _)); exact BK202.out⟩, ⟨zb1 HB GE202⟩⟩
     ·rw [if_neg c6] at H
      exact absurd H (by simp)
    ·rw [if_neg c5] at H
     exact absurd H (by simp)
   ·rw [if_neg c4] at H
    have c4b0 : decide (x7_1 < (l0.length : Int)) = false := jZ c4
    clear c4
    by_cases c16 : x5_1 = true
    ·subst c16
     have H1 : (some x6_1) = some r := by rw [if_pos rfl] at H; exact H
     clear H
     have H := H1
     clear H1
     obtain rfl := jN H
     go_wp2
     go_ret
     exact ⟨by first | rfl | (simp [errW_none, errW_some] <;> rfl) | (simp [*, errW_none, errW_some] <;> rfl), zb1 HB GE202⟩
    ·replace c16 := Bool.eq_false_iff.mpr c16
     subst c16
     have H1 : (some false) = some r := by rw [if_neg (show ¬ (false = true) by decide)] at H; exact H
     clear H
     have H := H1
     clear H1
     obtain rfl := jN H
     go_wp2
     go_ret
     exact ⟨by first | rfl | (simp [errW_none, errW_some] <;> rfl) | (simp [*, errW_none, errW_some] <;> rfl), zb1 HB GE202⟩

/-! ### spec_l26Lawful: function 65 -/
def spec_l26Lawful.f (k : Nat) (l0 : List (S65)) (a1_0 : Int) (l1_1 : List Int) : Option (Bool) := (spec_l26Net.f k l0 a1_0 l1_1).bind fun t208 => (if t208 ≤ a1_0 then ((spec_l26Mixed.f k l0 a1_0 l1_1).bind fun t209 => (some (!t209))) else (some false))
theorem spec_l26Lawful.mono : ∀ a0 a1 a2 k, LeO (spec_l26Lawful.f k a0 a1 a2) (spec_l26Lawful.f (k + 1) a0 a1 a2) := by
 intro a0 a1 a2 k
 unfold spec_l26Lawful.f
 repeat' first
   | (with_reducible exact spec_l26Mixed.mono _ _ _ _)
   | (with_reducible exact spec_l26Net.mono _ _ _ _)
   | (with_reducible exact LeO.refl _)
   | (with_reducible exact LeO.none _)
   | (with_reducible refine LeO.ite ?_ ?_)
   | (with_reducible refine LeO.bind ?_ (fun _ => ?_))
   | exact spec_l26Mixed.mono _ _ _ _
   | exact spec_l26Net.mono _ _ _ _
   | exact LeO.none _
   | refine LeO.ite ?_ ?_
   | refine LeO.bind ?_ (fun _ => ?_)
def spec_l26Lawful.T1 : Bool × List (List Nat × List Nat) := (true, [([], []), ([], []), ([0, 1], [0, 1]), ([], []), ([3], [3]), ([2, 4], [2, 4]), ([5, 2], [5]), ([6], [6]), ([6], [6]), ([7, 8, 6, 6], [6, 7, 8]), ([9, 6], [6, 9]), ([6, 10], [6, 10]), ([11, 9, 0, 1, 2, 3, 4, 5, 6, 7, 8, 9, 10, 11], [11])])
def spec_l26Lawful.B1 : List Nat := [0, 0, 3, 0, 8, 31, 63, 127, 127, 511, 1023, 2047, 4095]
theorem spec_l26Lawful.tab1 : rtab .any (opsOf Try.f65 1) = spec_l26Lawful.T1 := by kernel_rfl
theorem spec_l26Lawful.bits1 : waitsOk spec_l26Lawful.T1.2 spec_l26Lawful.B1 = true := by kernel_rfl
set_option maxHeartbeats 8000000 in
set_option maxRecDepth 100000 in
theorem spec_l26Lawful.calls (k : Nat) (A0 : Option Addr) (c0 : Nat) (l0 : List (S65)) (a1_0 : Int) (A1_1 : Option Addr) (c1_1 : Nat) (l1_1 : List Int) (r : Bool) (w : World) (hr0 : Kd.C k65 w A0 l0.length l0) (hc0 : l0.length ≤ c0) (hr1_1 : Kd.C (Kd.int .i64) w A1_1 l1_1.length l1_1) (hc1_1 : l1_1.length ≤ c1_1) (h : spec_l26Lawful.f k l0 a1_0 l1_1 = some r) :
  Calls Try.prog 65 #[.slice A0 l0.length c0, .agg #[.int .i64 a1_0, .slice A1_1 l1_1.length c1_1]] w fun e w' => e = .returned (.bool r) ∧ Below w.heap.size w w' := by
 have hu28 := Try.underlying28
 have HR0 := jB hr0
 have HC0 := jB hc0
 clear hr0 hc0
 have HR1_1 := jB hr1_1
 have HC1_1 := jB hc1_1
 clear hr1_1 hc1_1
 have HB := jB (Below.refl w.heap.size w)
 have H : ((spec_l26Net.f k l0 a1_0 l1_1).bind fun t208 => (if t208 ≤ a1_0 then ((spec_l26Mixed.f k l0 a1_0 l1_1).bind fun t209 => (some (!t209))) else (some false))) = some r := h
 clear h
 replace H := jP.mp H
 obtain ⟨t208, A30, H⟩ := H
 replace H : (if t208 ≤ a1_0 then ((spec_l26Mixed.f k l0 a1_0 l1_1).bind fun t209 => (some (!t209))) else (some false)) = some r := H
 have A3 := jB A30
 clear A30
 by_cases c4 : t208 ≤ a1_0
 ·rw [if_pos c4] at H
  have c4b0 : decide (t208 ≤ a1_0) = true := jR c4
  clear c4
  replace H := jP.mp H
  obtain ⟨t209, A50, H⟩ := H
  replace H : (some (!t209)) = some r := H
  have A5 := jB A50
  clear A50
  obtain rfl := jN H
  go_enter Try.func65, Try.ntmps65
  try go_wp2_with (first | ((with_reducible refine jV (N := 3) rfl ?_); refine jU ?hg (N := 3) ?hd (cs := #[.int .i64 a1_0, .slice A1_1 l1_1.length c1_1]) (t := 28) ?hr ?_; (case hd => rfl); (case hg => rfl); (case hr => first | (go_simp; done) | (go_simp; rfl)); intro gb207 hg w6 hbox hb; have n0_ := jB (jK (zb0 HB) hb); have n1_ := jB (hbox); have n2_ := jB ((by rw [hg]; exact (jF (zb0 HB)) : w.heap.size ≤ gb207)); have n3_ := jB ((by rw [hg]; exact (jF (zb0 HB)) : w.heap.size ≤ gb207)); clear HB; have HB := n0_; have BK207 := n1_; have GW207 := n2_; have GE207 := n3_; clear n0_ n1_ n2_ n3_; clear hb hbox hg))
  have n0_ := jB (jI BK207.out)
  have n1_ := jB (below_drew1 HB.out)
  clear BK207
  clear HB
  have BK207 := n0_
  have HB := n1_
  clear n0_ n1_
  refine start_ (n := 13) (S := fun w' => w'.cell? ⟨gb207, 0, none⟩ = some (.int .i64 a1_0) ∧ w'.cell? ⟨gb207, 1, none⟩ = some (.slice A1_1 l1_1.length c1_1)) (ds := []) m13_0 zr rfl rfl ⟨(jC BK207.out 0).trans rfl, (jC BK207.out 1).trans rfl⟩ (fun hHeld => ?_); refine with_tabW spec_l26Lawful.tab1 spec_l26Lawful.bits1 (fun HT_ HW_ => ?_)
  generalize w6.drew = w7 at BK207 HB hHeld ⊢
  refine zp HT_ 0 5 m13_1000 ?_
  refine zp HT_ 3 8 m13_1200 ?_
  refine zt2 HT_ HW_ hHeld 1 6 m13_1a00 ?_
  refine zt2 HT_ HW_ hHeld 4 9 m13_1b00 ?_
  refine one_ (i := 2) (N := some 7) m13_1f00 rfl rfl (one_of HT_.out zr) (by decide) (fun K hK => ?_)
  refine goes_ Try.func63 zr rfl #[.slice A0 l0.length c0, .agg #[.int .i64 a1_0, .slice A1_1 l1_1.length c1_1]] (by rfl) rfl rfl zm ?_
  with_reducible refine (spec_l26Net.calls k _ _ l0 a1_0 _ _ l1_1 t208 _ ?side1 ?side2 ?side3 ?side4 A3.out).mono ?_
  (case side1 => exact zs HR0 HB)
  (case side2 => exact HC0.out)
  (case side3 => exact zs HR1_1 HB)
  (case side4 => exact HC1_1.out)
  rintro e w8 ⟨rfl, hb⟩
  refine ⟨_, rfl, ?_⟩
  have n0_ := jB (jO (g := gb207) (o := .cells #[.int .i64 a1_0, .slice A1_1 l1_1.length c1_1] 28 (0, 0)) (zk BK207) hb)
  have n1_ := jB (jK (zb1 HB GE207) hb)
  clear BK207
  clear HB
  have BK207 := n0_
  have HB := n1_
  clear n0_ n1_
  (try clear hb)
  (try clear hb2)
  (try clear hk)
  (try clear hi)
  refine hK.out _ _ ⟨(jC BK207.out 0).trans rfl, (jC BK207.out 1).trans rfl⟩ (fun hHeld => ?_)
  clear hK K
  refine norm_ (a' := ?_) ?_ ?_
  rotate_left
  ·show Act.put _ (some 7) _ = _
   simp only [Act.put, jL, jS, jT, i64_w, i32_w]
   rfl
  refine zp HT_ 5 10 m13_1f80 ?_
  refine zp HT_ 6 11 m13_1fc0 ?_
  refine zp HT_ 7 12 m13_1fe0 ?_
  refine zt2 HT_ HW_ hHeld 8 13 m13_1ff0 ?_
  refine one_ (i := 9) (N := some 14) m13_1ff8 rfl rfl (one_of HT_.out zr) (by decide) (fun K hK => ?_)
  refine goes_ Try.func67 zr rfl #[.slice A0 l0.length c0, .agg #[.int .i64 a1_0, .slice A1_1 l1_1.length c1_1]] (by rfl) rfl rfl zm ?_
  with_reducible refine (spec_l26Mixed.calls k _ _ l0 a1_0 _ _ l1_1 t209 _ ?side1 ?side2 ?side3 ?side4 A5.out).mono ?_
  (case side1 => exact zs HR0 HB)
  (case side2 => exact HC0.out)
  (case side3 => exact zs HR1_1 HB)
  (case side4 => exact HC1_1.out)
  rintro e w9 ⟨rfl, hb⟩
  refine ⟨_, rfl, ?_⟩
  have n0_ := jB (jO (g := gb207) (o := .cells #[.int .i64 a1_0, .slice A1_1 l1_1.length c1_1] 28 (0, 0)) (zk BK207) hb)
  have n1_ := jB (jK (zb1 HB GE207) hb)
  clear BK207
  clear HB
  have BK207 := n0_
  have HB := n1_
  clear n0_ n1_
  (try clear hb)
  (try clear hb2)
  (try clear hk)
  (try clear hi)
  refine hK.out _ _ ⟨(jC BK207.out 0).trans rfl, (jC BK207.out 1).trans rfl⟩ (fun hHeld => ?_)
  clear hK K
  refine norm_ (a' := ?_) ?_ ?_
  rotate_left
  ·show Act.put _ (some 14) _ = _
   simp only [Act.put, jL, jS, jT, i64_w, i32_w]
   rfl
  refine zp HT_ 10 15 m13_1ffc ?_
  refine zp HT_ 11 16 m13_1ffe ?_
  refine zp HT_ 12 4 m13_1fff ?_
  refine done_ (done_of HT_.out zr) ?_
  try go_wp2
  go_ret
  exact ⟨by first | rfl | (simp [errW_none, errW_some] <;> rfl) | (simp [*, errW_none, errW_some] <;> rfl), zb1 HB GE207⟩
 ·rw [if_neg c4] at H
  have c4b0 : decide (t208 ≤ a1_0) = false := jZ c4
  clear c4
  obtain rfl := jN H
  go_enter Try.func65, Try.ntmps65
  try go_wp2_with (first | ((with_reducible refine jV (N := 3) rfl ?_); refine jU ?hg (N := 3) ?hd (cs := #[.int .i64 a1_0, .slice A1_1 l1_1.length c1_1]) (t := 28) ?hr ?_; (case hd => rfl); (case hg => rfl); (case hr => first | (go_simp; done) | (go_simp; rfl)); intro gb207 hg w10 hbox hb; have n0_ := jB (jK (zb0 HB) hb); have n1_ := jB (hbox); have n2_ := jB ((by rw [hg]; exact (jF (zb0 HB)) : w.heap.size ≤ gb207)); have n3_ := jB ((by rw [hg]; exact (jF (zb0 HB)) : w.heap.size ≤ gb207)); clear HB; have HB := n0_; have BK207 := n1_; have GW207 := n2_; have GE207 := n3_; clear n0_ n1_ n2_ n3_; clear hb hbox hg))
  have n0_ := jB (jI BK207.out)
  have n1_ := jB (below_drew1 HB.out)
  clear BK207
  clear HB
  have BK207 := n0_
  have HB := n1_
  clear n0_ n1_
  refine start_ (n := 13) (S := fun w' => w'.cell? ⟨gb207, 0, none⟩ = some (.int .i64 a1_0) ∧ w'.cell? ⟨gb207, 1, none⟩ = some (.slice A1_1 l1_1.length c1_1)) (ds := []) m13_0 zr rfl rfl ⟨(jC BK207.out 0).trans rfl, (jC BK207.out 1).trans rfl⟩ (fun hHeld => ?_); refine with_tabW spec_l26Lawful.tab1 spec_l26Lawful.bits1 (fun HT_ HW_ => ?_)
  generalize w10.drew = w11 at BK207 HB hHeld ⊢
  refine zp HT_ 0 5 m13_1000 ?_
  refine zp HT_ 3 8 m13_1200 ?_
  refine zt2 HT_ HW_ hHeld 1 6 m13_1a00 ?_
  refine zt2 HT_ HW_ hHeld 4 9 m13_1b00 ?_
  refine one_ (i := 2) (N := some 7) m13_1f00 rfl rfl (one_of HT_.out zr) (by decide) (fun K hK => ?_)
  refine goes_ Try.func63 zr rfl #[.slice A0 l0.length c0, .agg #[.int .i64 a1_0, .slice A1_1 l1_1.length c1_1]] (by rfl) rfl rfl zm ?_
  with_reducible refine (spec_l26Net.calls k _ _ l0 a1_0 _ _ l1_1 t208 _ ?side1 ?side2 ?side3 ?side4 A3.out).mono ?_
  (case side1 => exact zs HR0 HB)
  (case side2 => exact HC0.out)
  (case side3 => exact zs HR1_1 HB)
  (case side4 => exact HC1_1.out)
  rintro e w12 ⟨rfl, hb⟩
  refine ⟨_, rfl, ?_⟩
  have n0_ := jB (jO (g := gb207) (o := .cells #[.int .i64 a1_0, .slice A1_1 l1_1.length c1_1] 28 (0, 0)) (zk BK207) hb)
  have n1_ := jB (jK (zb1 HB GE207) hb)
  clear BK207
  clear HB
  have BK207 := n0_
  have HB := n1_
  clear n0_ n1_
  (try clear hb)
  (try clear hb2)
  (try clear hk)
  (try clear hi)
  refine hK.out _ _ ⟨(jC BK207.out 0).trans rfl, (jC BK207.out 1).trans rfl⟩ (fun hHeld => ?_)
  clear hK K
  refine norm_ (a' := ?_) ?_ ?_
  rotate_left
  ·show Act.put _ (some 7) _ = _
   simp only [Act.put, jL, jS, jT, i64_w, i32_w]
   rfl
  refine zp HT_ 5 10 m13_1f80 ?_
  refine zp HT_ 6 11 m13_1fc0 ?_
  refine zq HT_ 7 12 m13_1fe0 ?_
  refine zq HT_ 8 13 m13_1ff0 ?_
  refine zq HT_ 9 14 m13_1ff8 ?_
  refine zq HT_ 10 15 m13_1ffc ?_
  refine zp HT_ 11 16 m13_1ffe ?_
  refine zp HT_ 12 4 m13_1fff ?_
  refine done_ (done_of HT_.out zr) ?_
  try go_wp2
  go_ret
  exact ⟨by first | rfl | (simp [errW_none, errW_some] <;> rfl) | (simp [*, errW_none, errW_some] <;> rfl), zb1 HB GE207⟩

/-! ### spec_l03Find: function 73 -/
def spec_l03Find.l0 : Nat → List (S65) → ByteArray → Int → Option (Int)
 | 0, _, _, _ => none
 | k + 1, x0, x1, x5 => if x5 < (x0.length : Int) then (if 0 ≤ x5 then (if ((rd_T65 x0 x5).f0).toList = x1.toList then (some x5) else (spec_l03Find.l0 k x0 x1 (wrap64 (x5 + 1)))) else (none)) else (some (-1))
def spec_l03Find.f (k : Nat) (l0 : List (S65)) (a1 : ByteArray) : Option (Int) := spec_l03Find.l0 k l0 a1 0
theorem spec_l03Find.mono_l : ∀ k, (∀ y0 y1 y2, LeO (spec_l03Find.l0 k y0 y1 y2) (spec_l03Find.l0 (k + 1) y0 y1 y2))
 | 0 => fun _ _ _ r h => by simp [spec_l03Find.l0] at h
 | k + 1 => by
  have ih0 := spec_l03Find.mono_l k
  ·intro y0 y1 y2
   unfold spec_l03Find.l0
   repeat' first
   | (with_reducible exact ih0 _ _ _)
   | (with_reducible exact LeO.refl _)
   | (with_reducible exact LeO.none _)
   | (with_reducible refine LeO.ite ?_ ?_)
   | (with_reducible refine LeO.bind ?_ (fun _ => ?_))
   | exact ih0 _ _ _
   | exact LeO.none _
   | refine LeO.ite ?_ ?_
   | refine LeO.bind ?_ (fun _ => ?_)
theorem spec_l03Find.mono : ∀ a0 a1 k, LeO (spec_l03Find.f k a0 a1) (spec_l03Find.f (k + 1) a0 a1) := by
 intro a0 a1 k
 have ih0 := spec_l03Find.mono_l k
 unfold spec_l03Find.f
 repeat' first
   | (with_reducible exact ih0 _ _ _)
   | (with_reducible exact LeO.refl _)
   | (with_reducible exact LeO.none _)
   | (with_reducible refine LeO.ite ?_ ?_)
   | (with_reducible refine LeO.bind ?_ (fun _ => ?_))
   | exact ih0 _ _ _
   | exact LeO.none _
   | refine LeO.ite ?_ ?_
   | refine LeO.bind ?_ (fun _ => ?_)
set_option maxHeartbeats 8000000 in
set_option maxRecDepth 100000 in
theorem spec_l03Find.calls (k : Nat) (A0 : Option Addr) (c0 : Nat) (l0 : List (S65)) (a1 : ByteArray) (r : Int) (w : World) (hr0 : Kd.C k65 w A0 l0.length l0) (hc0 : l0.length ≤ c0) (h : spec_l03Find.f k l0 a1 = some r) :
  Calls Try.prog 73 #[.slice A0 l0.length c0, .string a1] w fun e w' => e = .returned (.int .i64 r) ∧ Drawn0 w w' := by
 have HR0 := jB hr0
 have HC0 := jB hc0
 clear hr0 hc0
 have H : (spec_l03Find.l0 k l0 a1 0) = some r := h
 clear h
 have H' := jB H
 clear H
 go_enter Try.func73, Try.ntmps73
 go_wp2
 go_loopg [5] k (fun kq v5 w' => ∃ (x5_1 : Int), v5 = .int .i64 x5_1 ∧ Aside0 (spec_l03Find.l0 kq l0 a1 x5_1 = some r) ∧ Aside0 (kq ≤ k) ∧ Drawn0 w w')
 case atStart => exact ⟨(0), zz, H', ⟨Nat.le_refl _⟩, by repeat (first | exact Drawn0.refl _ | apply Drawn0.step)⟩
 case round =>
  clear H'
  try clear p2
  obtain ⟨x5_1, rfl, HA, HK1, ⟨m1, rfl⟩⟩ := hrel
  cases gk with
  | zero => exact absurd HA.out (by simp [spec_l03Find.l0])
  | succ k1 =>
   have H := HA.out
   clear HA
   simp only [spec_l03Find.l0] at H
   by_cases c3 : x5_1 < (l0.length : Int)
   ·rw [if_pos c3] at H
    have c3b0 : decide (x5_1 < (l0.length : Int)) = true := jR c3
    clear c3
    by_cases c4 : 0 ≤ x5_1
    ·rw [if_pos c4] at H
     have c4b0 : decide (0 ≤ x5_1) = true := jR c4
     clear c4
     by_cases c5 : ((rd_T65 l0 x5_1).f0).toList = a1.toList
     ·rw [if_pos c5] at H
      have c5b0 : (((rd_T65 l0 x5_1).f0).toList == a1.toList) = true := beq_iff_eq.mpr c5
      have c5b1 : (((rd_T65 l0 x5_1).f0).toList != a1.toList) = false := bne_eq_false_iff_eq.mpr c5
      clear c5
      obtain rfl := jN H
      have p210 : 0 ≤ (x5_1 : Int) := jE za
      have q210 : x5_1 < (l0.length : Int) := jE za
      obtain ⟨ad210, e210, hx210_0, hx210_1, hx210_2, hx210_3, hx210_4, hx210_5, hx210_6, hx210_7, hx210_8⟩ := at_T65 HR0.out x5_1 p210 q210
      cases e210
      replace p210 := eq_true p210
      replace q210 := eq_true q210
      go_wp2
      go_ret
      exact ⟨by first | rfl | (simp; done) | (simp [*]; done), by repeat (first | exact Drawn0.refl _ | apply Drawn0.step)⟩
     ·rw [if_neg c5] at H
      have c5b0 : (((rd_T65 l0 x5_1).f0).toList == a1.toList) = false := beq_eq_false_iff_ne.mpr c5
      have c5b1 : (((rd_T65 l0 x5_1).f0).toList != a1.toList) = true := bne_iff_ne.mpr c5
      have H' := jB H
      clear H
      have p210 : 0 ≤ (x5_1 : Int) := jE za
      have q210 : x5_1 < (l0.length : Int) := jE za
      obtain ⟨ad210, e210, hx210_0, hx210_1, hx210_2, hx210_3, hx210_4, hx210_5, hx210_6, hx210_7, hx210_8⟩ := at_T65 HR0.out x5_1 p210 q210
      cases e210
      replace p210 := eq_true p210
      replace q210 := eq_true q210
      go_wp2
      go_roundg k1
      case measure => have := HK1.out; omega
      case rel => exact ⟨(wrap64 (x5_1 + 1)), zz, H', ⟨by have := HK1.out; omega⟩, by repeat (first | exact Drawn0.refl _ | apply Drawn0.step)⟩
    ·rw [if_neg c4] at H
     exact absurd H (by simp)
   ·rw [if_neg c3] at H
    have c3b0 : decide (x5_1 < (l0.length : Int)) = false := jZ c3
    clear c3
    obtain rfl := jN H
    go_wp2
    go_ret
    exact ⟨by first | rfl | (simp; done) | (simp [*]; done), by repeat (first | exact Drawn0.refl _ | apply Drawn0.step)⟩

end Go.Proofs.Ytdgglhfnlljmeaa.PFnExactRoomFor
