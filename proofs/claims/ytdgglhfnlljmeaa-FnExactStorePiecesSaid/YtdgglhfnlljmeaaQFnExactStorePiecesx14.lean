/- Functions and contracts that FnExactStorePieces reaches (15 of 17). -/
import Derived.Test.YtdgglhfnlljmeaaQFnExactStorePiecesx13
namespace Go.Proofs.Ytdgglhfnlljmeaa.PFnExactStorePieces
open Go.RowKit Go.Proofs.YtdgglhfnlljmeaaW.PrintWords Go.Proofs.YtdgglhfnlljmeaaW.PrintLast Go.Proofs.YtdgglhfnlljmeaaW.PrintMore
attribute [local go_sem] max2_int min2_int max_two min_two max_three min_three max_four min_four   -- for this text's walks alone
set_option linter.unusedVariables false
set_option linter.unusedSimpArgs false
open Go.Proofs.YtdgglhfnlljmeaaX

/-! ### spec_l03Code: function 59 -/
def spec_l03Code.l0 : Nat → List (S65) → List Int → Int → Option (Int)
 | 0, _, _, _ => none
 | k + 1, x0, x1, x5 => if x5 < (x1.length : Int) then (if 0 ≤ x5 then ((spec_l01In.f (rd x1 x5) 0 1000).bind fun t284 => (if t284 = true then (spec_l03Code.l0 k x0 x1 (wrap64 (x5 + 1))) else (some 2))) else (none)) else (if (x1.length : Int) = (x0.length : Int) then (some 0) else (some 2))
def spec_l03Code.f (k : Nat) (l0 : List (S65)) (l1 : List Int) : Option (Int) := (spec_AreArticles.f k l0).bind fun t282 => (if t282 = true then (spec_l03Code.l0 k l0 l1 0) else (some 1))
theorem spec_l03Code.mono_l : ∀ k, (∀ y0 y1 y2, LeO (spec_l03Code.l0 k y0 y1 y2) (spec_l03Code.l0 (k + 1) y0 y1 y2))
 | 0 => fun _ _ _ r h => by simp [spec_l03Code.l0] at h
 | k + 1 => by
  have ih0 := spec_l03Code.mono_l k
  ·intro y0 y1 y2
   unfold spec_l03Code.l0
   repeat' first
   | (with_reducible exact ih0 _ _ _)
   | (with_reducible exact spec_AreArticles.mono _ _)
   | (with_reducible exact LeO.refl _)
   | (with_reducible exact LeO.none _)
   | (with_reducible refine LeO.ite ?_ ?_)
   | (with_reducible refine LeO.bind ?_ (fun _ => ?_))
   | exact ih0 _ _ _
   | exact spec_AreArticles.mono _ _
   | exact LeO.none _
   | refine LeO.ite ?_ ?_
   | refine LeO.bind ?_ (fun _ => ?_)
theorem spec_l03Code.mono : ∀ a0 a1 k, LeO (spec_l03Code.f k a0 a1) (spec_l03Code.f (k + 1) a0 a1) := by
 intro a0 a1 k
 have ih0 := spec_l03Code.mono_l k
 unfold spec_l03Code.f
 repeat' first
   | (with_reducible exact ih0 _ _ _)
   | (with_reducible exact spec_AreArticles.mono _ _)
   | (with_reducible exact LeO.refl _)
   | (with_reducible exact LeO.none _)
   | (with_reducible refine LeO.ite ?_ ?_)
   | (with_reducible refine LeO.bind ?_ (fun _ => ?_))
   | exact ih0 _ _ _
   | exact spec_AreArticles.mono _ _
   | exact LeO.none _
   | refine LeO.ite ?_ ?_
   | refine LeO.bind ?_ (fun _ => ?_)
set_option maxHeartbeats 8000000 in
set_option maxRecDepth 100000 in
theorem spec_l03Code.calls (k : Nat) (A0 : Option Addr) (c0 : Nat) (l0 : List (S65)) (A1 : Option Addr) (c1 : Nat) (l1 : List Int) (r : Int) (w : World) (hr0 : Kd.C k65 w A0 l0.length l0) (hc0 : l0.length ≤ c0) (hr1 : Kd.C (Kd.int .i64) w A1 l1.length l1) (hc1 : l1.length ≤ c1) (h : spec_l03Code.f k l0 l1 = some r) :
  Calls Try.prog 59 #[.slice A0 l0.length c0, .slice A1 l1.length c1] w fun e w' => e = .returned (.int .i64 r) ∧ Below w.heap.size w w' := by
 have HR0 := jA hr0
 have HC0 := jA hc0
 clear hr0 hc0
 have HR1 := jA hr1
 have HC1 := jA hc1
 clear hr1 hc1
 have HB := jA (Below.refl w.heap.size w)
 have H : ((spec_AreArticles.f k l0).bind fun t282 => (if t282 = true then (spec_l03Code.l0 k l0 l1 0) else (some 1))) = some r := h
 clear h
 replace H := jP.mp H
 obtain ⟨t282, A30, H⟩ := H
 replace H : (if t282 = true then (spec_l03Code.l0 k l0 l1 0) else (some 1)) = some r := H
 have A3 := jA A30
 clear A30
 by_cases c4 : t282 = true
 ·subst c4
  have H1 : (spec_l03Code.l0 k l0 l1 0) = some r := by rw [if_pos rfl] at H; exact H
  clear H
  have H := H1
  clear H1
  have H' := jA H
  clear H
  go_enter Try.func59, Try.ntmps59
  go_wp2_with (first | ((with_reducible refine jW (f := 83) rfl ?_); refine goesL_ (some 7) rfl rfl Try.func83 zr rfl #[.slice A0 l0.length c0] rfl zm ?_; (with_reducible refine (spec_AreArticles.calls k _ _ l0 true _ ?side1 ?side2 A3.out).mono ?_); (case side1 => repeat (first | exact HR0.out | (with_reducible refine Kd.C_alloc ?_ _) | (with_reducible refine Kd.C_drewN ?_ _) | (with_reducible refine Kd.C_drew ?_))); (case side2 => exact HC0.out); rintro e w5 ⟨rfl, hb⟩; refine ⟨_, rfl, ?_⟩; have n0_ := jA (jJ (zb0 HB) hb); clear HB; have HB := n0_; clear n0_; (try clear hb); (try clear hb2); (try clear hk); (try clear hi)))
  go_loopg [5] k (fun kq v5 w' => ∃ (x5_1 : Int), v5 = .int .i64 x5_1 ∧ Aside0 (spec_l03Code.l0 kq l0 l1 x5_1 = some r) ∧ Aside0 (kq ≤ k) ∧ Aside0 (Below w.heap.size w w'))
  case atStart => exact ⟨(0), zz, H', ⟨Nat.le_refl _⟩, ⟨zb0 HB⟩⟩
  case round =>
   clear H'
   try clear c1
   try clear p2
   try clear c4
   try clear c5
   obtain ⟨x5_1, rfl, HA, HK1, HB⟩ := hrel
   cases gk with
   | zero => exact absurd HA.out (by simp [spec_l03Code.l0])
   | succ k1 =>
    have H := HA.out
    clear HA
    simp only [spec_l03Code.l0] at H
    by_cases c6 : x5_1 < (l1.length : Int)
    ·rw [if_pos c6] at H
     have c6b0 : decide (x5_1 < (l1.length : Int)) = true := jQ c6
     clear c6
     by_cases c7 : 0 ≤ x5_1
     ·rw [if_pos c7] at H
      have c7b0 : decide (0 ≤ x5_1) = true := jQ c7
      clear c7
      replace H := jP.mp H
      obtain ⟨t284, A80, H⟩ := H
      replace H : (if t284 = true then (spec_l03Code.l0 k1 l0 l1 (wrap64 (x5_1 + 1))) else (some 2)) = some r := H
      have A8 := jA A80
      clear A80
      by_cases c9 : t284 = true
      ·subst c9
       have H1 : (spec_l03Code.l0 k1 l0 l1 (wrap64 (x5_1 + 1))) = some r := by rw [if_pos rfl] at H; exact H
       clear H
       have H := H1
       clear H1
       have H' := jA H
       clear H
       have p283 : 0 ≤ (x5_1 : Int) := jE za
       have q283 : x5_1 < (l1.length : Int) := jE za
       obtain ⟨ad283, e283, hx283_0⟩ := Kd.at_int HR1.out x5_1 p283 q283
       cases e283
       replace hx283_0 := (HB.out.cell (jB w _ hx283_0)).trans hx283_0
       replace p283 := eq_true p283
       replace q283 := eq_true q283
       go_wp2_with (first | ((with_reducible refine jW (f := 58) rfl ?_); refine goesL_ (some 19) rfl rfl Try.func58 zr rfl #[.int .i64 (rd l1 x5_1), .int .i64 0, .int .i64 1000] rfl zm ?_; (with_reducible refine (spec_l01In.calls (rd l1 x5_1) 0 1000 true _ A8.out).mono ?_); rintro e w' ⟨rfl, ⟨nd, rfl⟩⟩; refine ⟨_, rfl, ?_⟩))
       go_roundg k1
       case measure => have := HK1.out; omega
       case rel => exact ⟨(wrap64 (x5_1 + 1)), zz, H', ⟨by have := HK1.out; omega⟩, ⟨zb0 HB⟩⟩
      ·replace c9 := Bool.eq_false_iff.mpr c9
       subst c9
       have H1 : (some 2) = some r := by rw [if_neg (show ¬ (false = true) by decide)] at H; exact H
       clear H
       have H := H1
       clear H1
       obtain rfl := jM H
       have p283 : 0 ≤ (x5_1 : Int) := jE za
       have q283 : x5_1 < (l1.length : Int) := jE za
       obtain ⟨ad283, e283, hx283_0⟩ := Kd.at_int HR1.out x5_1 p283 q283
       cases e283
       replace hx283_0 := (HB.out.cell (jB w _ hx283_0)).trans hx283_0
       replace p283 := eq_true p283
       replace q283 := eq_true q283
       go_wp2_with (first | ((with_reducible refine jW (f := 58) rfl ?_); refine goesL_ (some 19) rfl rfl Try.func58 zr rfl #[.int .i64 (rd l1 x5_1), .int .i64 0, .int .i64 1000] rfl zm ?_; (with_reducible refine (spec_l01In.calls (rd l1 x5_1) 0 1000 false _ A8.out).mono ?_); rintro e w' ⟨rfl, ⟨nd, rfl⟩⟩; refine ⟨_, rfl, ?_⟩))
       go_ret
       exact ⟨by first | rfl | (simp [errW_none, errW_some] <;> rfl) | (simp [*, errW_none, errW_some] <;> rfl), zb0 HB⟩
     ·rw [if_neg c7] at H
      exact absurd H (by simp)
    ·rw [if_neg c6] at H
     have c6b0 : decide (x5_1 < (l1.length : Int)) = false := jY c6
     clear c6
     by_cases c10 : (l1.length : Int) = (l0.length : Int)
     ·rw [if_pos c10] at H
      have c10b0 : ((l1.length : Int) == (l0.length : Int)) = true := beq_iff_eq.mpr c10
      have c10b1 : ((l1.length : Int) != (l0.length : Int)) = false := bne_eq_false_iff_eq.mpr c10
      have c10b2 : (l1.length == l0.length) = true := by first | simpa using c10 | (simp at c10 ⊢; omega)
      clear c10
      obtain rfl := jM H
      go_wp2
      go_ret
      exact ⟨by first | rfl | (simp [errW_none, errW_some] <;> rfl) | (simp [*, errW_none, errW_some] <;> rfl), zb0 HB⟩
     ·rw [if_neg c10] at H
      have c10b0 : ((l1.length : Int) == (l0.length : Int)) = false := beq_eq_false_iff_ne.mpr c10
      have c10b1 : ((l1.length : Int) != (l0.length : Int)) = true := bne_iff_ne.mpr c10
      have c10b2 : (l1.length == l0.length) = false := by first | simpa using c10 | (simp at c10 ⊢; omega)
      obtain rfl := jM H
      go_wp2
      go_ret
      exact ⟨by first | rfl | (simp [errW_none, errW_some] <;> rfl) | (simp [*, errW_none, errW_some] <;> rfl), zb0 HB⟩
 ·replace c4 := Bool.eq_false_iff.mpr c4
  subst c4
  have H1 : (some 1) = some r := by rw [if_neg (show ¬ (false = true) by decide)] at H; exact H
  clear H
  have H := H1
  clear H1
  obtain rfl := jM H
  go_enter Try.func59, Try.ntmps59
  go_wp2_with (first | ((with_reducible refine jW (f := 83) rfl ?_); refine goesL_ (some 7) rfl rfl Try.func83 zr rfl #[.slice A0 l0.length c0] rfl zm ?_; (with_reducible refine (spec_AreArticles.calls k _ _ l0 false _ ?side1 ?side2 A3.out).mono ?_); (case side1 => repeat (first | exact HR0.out | (with_reducible refine Kd.C_alloc ?_ _) | (with_reducible refine Kd.C_drewN ?_ _) | (with_reducible refine Kd.C_drew ?_))); (case side2 => exact HC0.out); rintro e w11 ⟨rfl, hb⟩; refine ⟨_, rfl, ?_⟩; have n0_ := jA (jJ (zb0 HB) hb); clear HB; have HB := n0_; clear n0_; (try clear hb); (try clear hb2); (try clear hk); (try clear hi)))
  go_ret
  exact ⟨by first | rfl | (simp [errW_none, errW_some] <;> rfl) | (simp [*, errW_none, errW_some] <;> rfl), zb0 HB⟩

/-! ### spec_IsMagazine: function 25 -/
def spec_IsMagazine.f (k : Nat) (l0 : List (S65)) (a1_0 : Int) (l1_1 : List Int) : Option (Bool) := (spec_l01In.f a1_0 0 1000000000).bind fun t286 => (if t286 = true then ((spec_l03Code.f k l0 l1_1).bind fun t287 => (some (t287 == 0))) else (some false))
theorem spec_IsMagazine.mono : ∀ a0 a1 a2 k, LeO (spec_IsMagazine.f k a0 a1 a2) (spec_IsMagazine.f (k + 1) a0 a1 a2) := by
 intro a0 a1 a2 k
 unfold spec_IsMagazine.f
 repeat' first
   | (with_reducible exact spec_l03Code.mono _ _ _)
   | (with_reducible exact LeO.refl _)
   | (with_reducible exact LeO.none _)
   | (with_reducible refine LeO.ite ?_ ?_)
   | (with_reducible refine LeO.bind ?_ (fun _ => ?_))
   | exact spec_l03Code.mono _ _ _
   | exact LeO.none _
   | refine LeO.ite ?_ ?_
   | refine LeO.bind ?_ (fun _ => ?_)
set_option maxHeartbeats 8000000 in
set_option maxRecDepth 100000 in
theorem spec_IsMagazine.calls (k : Nat) (A0 : Option Addr) (c0 : Nat) (l0 : List (S65)) (a1_0 : Int) (A1_1 : Option Addr) (c1_1 : Nat) (l1_1 : List Int) (r : Bool) (w : World) (hr0 : Kd.C k65 w A0 l0.length l0) (hc0 : l0.length ≤ c0) (hr1_1 : Kd.C (Kd.int .i64) w A1_1 l1_1.length l1_1) (hc1_1 : l1_1.length ≤ c1_1) (h : spec_IsMagazine.f k l0 a1_0 l1_1 = some r) :
  Calls Try.prog 25 #[.slice A0 l0.length c0, .agg #[.int .i64 a1_0, .slice A1_1 l1_1.length c1_1]] w fun e w' => e = .returned (.bool r) ∧ Below w.heap.size w w' := by
 have hu28 := Try.underlying28
 have HR0 := jA hr0
 have HC0 := jA hc0
 clear hr0 hc0
 have HR1_1 := jA hr1_1
 have HC1_1 := jA hc1_1
 clear hr1_1 hc1_1
 have HB := jA (Below.refl w.heap.size w)
 have H : ((spec_l01In.f a1_0 0 1000000000).bind fun t286 => (if t286 = true then ((spec_l03Code.f k l0 l1_1).bind fun t287 => (some (t287 == 0))) else (some false))) = some r := h
 clear h
 replace H := jP.mp H
 obtain ⟨t286, A30, H⟩ := H
 replace H : (if t286 = true then ((spec_l03Code.f k l0 l1_1).bind fun t287 => (some (t287 == 0))) else (some false)) = some r := H
 have A3 := jA A30
 clear A30
 by_cases c4 : t286 = true
 ·subst c4
  have H1 : ((spec_l03Code.f k l0 l1_1).bind fun t287 => (some (t287 == 0))) = some r := by rw [if_pos rfl] at H; exact H
  clear H
  have H := H1
  clear H1
  replace H := jP.mp H
  obtain ⟨t287, A50, H⟩ := H
  replace H : (some (t287 == 0)) = some r := H
  have A5 := jA A50
  clear A50
  obtain rfl := jM H
  go_enter Try.func25, Try.ntmps25
  go_wp2_with (first | ((with_reducible refine jV (N := 3) rfl ?_); refine jU ?hg (N := 3) ?hd (cs := #[.int .i64 a1_0, .slice A1_1 l1_1.length c1_1]) (t := 28) ?hr ?_; (case hd => rfl); (case hg => rfl); (case hr => first | (go_simp; done) | (go_simp; rfl)); intro gb285 hg w6 hbox hb; have n0_ := jA (jJ (zb0 HB) hb); have n1_ := jA (hbox); have n2_ := jA ((by rw [hg]; exact (jF (zb0 HB)) : w.heap.size ≤ gb285)); have n3_ := jA ((by rw [hg]; exact (jF (zb0 HB)) : w.heap.size ≤ gb285)); clear HB; have HB := n0_; have BK285 := n1_; have GW285 := n2_; have GE285 := n3_; clear n0_ n1_ n2_ n3_; clear hb hbox hg; have hcz7_0 : w6.cell? ⟨gb285, 0, none⟩ = some (.int .i64 a1_0) := (jD BK285.out 0).trans rfl; have hcz7_1 : w6.cell? ⟨gb285, 1, none⟩ = some (.slice A1_1 l1_1.length c1_1) := (jD BK285.out 1).trans rfl; have hfz7_0 := jC BK285.out 0; have hfz7_1 := jC BK285.out 1) | ((with_reducible refine jW (f := 58) rfl ?_); refine goesL_ (some 7) rfl rfl Try.func58 zr rfl #[.int .i64 a1_0, .int .i64 0, .int .i64 1000000000] rfl zm ?_; (with_reducible refine (spec_l01In.calls a1_0 0 1000000000 true _ A3.out).mono ?_); rintro e w' ⟨rfl, ⟨nd, rfl⟩⟩; refine ⟨_, rfl, ?_⟩) | (go_at_call 59; (with_reducible refine (spec_l03Code.calls k _ _ l0 _ _ l1_1 t287 _ ?side1 ?side2 ?side3 ?side4 A5.out).mono ?_); (case side1 => repeat (first | exact HR0.out | exact (Kd.C_below HR0.out (zb1 HB GE285)) | (with_reducible refine Kd.C_alloc ?_ _) | (with_reducible refine Kd.C_drewN ?_ _) | (with_reducible refine Kd.C_drew ?_))); (case side2 => exact HC0.out); (case side3 => repeat (first | exact HR1_1.out | exact (Kd.C_below HR1_1.out (zb1 HB GE285)) | (with_reducible refine Kd.C_alloc ?_ _) | (with_reducible refine Kd.C_drewN ?_ _) | (with_reducible refine Kd.C_drew ?_))); (case side4 => exact HC1_1.out); rintro e w8 ⟨rfl, hb⟩; have n0_ := jA (jO (g := gb285) (o := .cells #[.int .i64 a1_0, .slice A1_1 l1_1.length c1_1] 28 (0, 0)) (zk BK285) hb); have n1_ := jA (jJ (zb1 HB GE285) hb); clear BK285; clear HB; have BK285 := n0_; have HB := n1_; clear n0_ n1_; (try clear hb); (try clear hb2); (try clear hk); (try clear hi)))
  go_ret
  exact ⟨by first | rfl | (simp [errW_none, errW_some] <;> rfl) | (simp [*, errW_none, errW_some] <;> rfl), zb1 HB GE285⟩
 ·replace c4 := Bool.eq_false_iff.mpr c4
  subst c4
  have H1 : (some false) = some r := by rw [if_neg (show ¬ (false = true) by decide)] at H; exact H
  clear H
  have H := H1
  clear H1
  obtain rfl := jM H
  go_enter Try.func25, Try.ntmps25
  go_wp2_with (first | ((with_reducible refine jV (N := 3) rfl ?_); refine jU ?hg (N := 3) ?hd (cs := #[.int .i64 a1_0, .slice A1_1 l1_1.length c1_1]) (t := 28) ?hr ?_; (case hd => rfl); (case hg => rfl); (case hr => first | (go_simp; done) | (go_simp; rfl)); intro gb285 hg w9 hbox hb; have n0_ := jA (jJ (zb0 HB) hb); have n1_ := jA (hbox); have n2_ := jA ((by rw [hg]; exact (jF (zb0 HB)) : w.heap.size ≤ gb285)); have n3_ := jA ((by rw [hg]; exact (jF (zb0 HB)) : w.heap.size ≤ gb285)); clear HB; have HB := n0_; have BK285 := n1_; have GW285 := n2_; have GE285 := n3_; clear n0_ n1_ n2_ n3_; clear hb hbox hg; have hcz10_0 : w9.cell? ⟨gb285, 0, none⟩ = some (.int .i64 a1_0) := (jD BK285.out 0).trans rfl; have hcz10_1 : w9.cell? ⟨gb285, 1, none⟩ = some (.slice A1_1 l1_1.length c1_1) := (jD BK285.out 1).trans rfl; have hfz10_0 := jC BK285.out 0; have hfz10_1 := jC BK285.out 1) | ((with_reducible refine jW (f := 58) rfl ?_); refine goesL_ (some 7) rfl rfl Try.func58 zr rfl #[.int .i64 a1_0, .int .i64 0, .int .i64 1000000000] rfl zm ?_; (with_reducible refine (spec_l01In.calls a1_0 0 1000000000 false _ A3.out).mono ?_); rintro e w' ⟨rfl, ⟨nd, rfl⟩⟩; refine ⟨_, rfl, ?_⟩))
  go_ret
  exact ⟨by first | rfl | (simp [errW_none, errW_some] <;> rfl) | (simp [*, errW_none, errW_some] <;> rfl), zb1 HB GE285⟩

/-! ### spec_l26Net: function 63 -/
def spec_l26Net.l0 : Nat → List (S65) → Int → Int → Int → List Int → Option (Int)
 | 0, _, _, _, _, _ => none
 | k + 1, x0, x5, x6, x289000, x289001 => if x6 < (x0.length : Int) then (if 0 ≤ x6 then (if x6 < (x289001.length : Int) then (spec_l26Net.l0 k x0 (wrap64 (x5 + (wrap64 (((rd_T65 x0 x6).f7) * (rd x289001 x6))))) (wrap64 (x6 + 1)) x289000 x289001) else (none)) else (none)) else (some x5)
def spec_l26Net.f (k : Nat) (l0 : List (S65)) (a1_0 : Int) (l1_1 : List Int) : Option (Int) := spec_l26Net.l0 k l0 0 0 a1_0 l1_1
theorem spec_l26Net.mono_l : ∀ k, (∀ y0 y1 y2 y3 y4, LeO (spec_l26Net.l0 k y0 y1 y2 y3 y4) (spec_l26Net.l0 (k + 1) y0 y1 y2 y3 y4))
 | 0 => fun _ _ _ _ _ r h => by simp [spec_l26Net.l0] at h
 | k + 1 => by
  have ih0 := spec_l26Net.mono_l k
  ·intro y0 y1 y2 y3 y4
   unfold spec_l26Net.l0
   repeat' first
   | (with_reducible exact ih0 _ _ _ _ _)
   | (with_reducible exact LeO.refl _)
   | (with_reducible exact LeO.none _)
   | (with_reducible refine LeO.ite ?_ ?_)
   | (with_reducible refine LeO.bind ?_ (fun _ => ?_))
   | exact ih0 _ _ _ _ _
   | exact LeO.none _
   | refine LeO.ite ?_ ?_
   | refine LeO.bind ?_ (fun _ => ?_)
theorem spec_l26Net.mono : ∀ a0 a1 a2 k, LeO (spec_l26Net.f k a0 a1 a2) (spec_l26Net.f (k + 1) a0 a1 a2) := by
 intro a0 a1 a2 k
 have ih0 := spec_l26Net.mono_l k
 unfold spec_l26Net.f
 repeat' first
   | (with_reducible exact ih0 _ _ _ _ _)
   | (with_reducible exact LeO.refl _)
   | (with_reducible exact LeO.none _)
   | (with_reducible refine LeO.ite ?_ ?_)
   | (with_reducible refine LeO.bind ?_ (fun _ => ?_))
   | exact ih0 _ _ _ _ _
   | exact LeO.none _
   | refine LeO.ite ?_ ?_
   | refine LeO.bind ?_ (fun _ => ?_)
set_option maxHeartbeats 8000000 in
set_option maxRecDepth 100000 in
theorem spec_l26Net.calls (k : Nat) (A0 : Option Addr) (c0 : Nat) (l0 : List (S65)) (a1_0 : Int) (A1_1 : Option Addr) (c1_1 : Nat) (l1_1 : List Int) (r : Int) (w : World) (hr0 : Kd.C k65 w A0 l0.length l0) (hc0 : l0.length ≤ c0) (hr1_1 : Kd.C (Kd.int .i64) w A1_1 l1_1.length l1_1) (hc1_1 : l1_1.length ≤ c1_1) (h : spec_l26Net.f k l0 a1_0 l1_1 = some r) :
  Calls Try.prog 63 #[.slice A0 l0.length c0, .agg #[.int .i64 a1_0, .slice A1_1 l1_1.length c1_1]] w fun e w' => e = .returned (.int .i64 r) ∧ Below w.heap.size w w' := by
 have hu28 := Try.underlying28
 have HR0 := jA hr0
 have HC0 := jA hc0
 clear hr0 hc0
 have HR1_1 := jA hr1_1
 have HC1_1 := jA hc1_1
 clear hr1_1 hc1_1
 have HB := jA (Below.refl w.heap.size w)
 have H : (spec_l26Net.l0 k l0 0 0 a1_0 l1_1) = some r := h
 clear h
 have H' := jA H
 clear H
 go_enter Try.func63, Try.ntmps63
 go_wp2_with (first | ((with_reducible refine jV (N := 3) rfl ?_); refine jU ?hg (N := 3) ?hd (cs := #[.int .i64 a1_0, .slice A1_1 l1_1.length c1_1]) (t := 28) ?hr ?_; (case hd => rfl); (case hg => rfl); (case hr => first | (go_simp; done) | (go_simp; rfl)); intro gb288 hg w3 hbox hb; have n0_ := jA (jJ (zb0 HB) hb); have n1_ := jA (hbox); have n2_ := jA ((by rw [hg]; exact (jF (zb0 HB)) : w.heap.size ≤ gb288)); have n3_ := jA ((by rw [hg]; exact (jF (zb0 HB)) : w.heap.size ≤ gb288)); clear HB; have HB := n0_; have BK288 := n1_; have GW288 := n2_; have GE288 := n3_; clear n0_ n1_ n2_ n3_; clear hb hbox hg))
 repeat (go_quiet (first | ((with_reducible refine jV (N := 3) rfl ?_); refine jU ?hg (N := 3) ?hd (cs := #[.int .i64 a1_0, .slice A1_1 l1_1.length c1_1]) (t := 28) ?hr ?_; (case hd => rfl); (case hg => rfl); (case hr => first | (go_simp; done) | (go_simp; rfl)); intro gb288 hg w3 hbox hb; have n0_ := jA (jJ (zb0 HB) hb); have n1_ := jA (hbox); have n2_ := jA ((by rw [hg]; exact (jF (zb0 HB)) : w.heap.size ≤ gb288)); have n3_ := jA ((by rw [hg]; exact (jF (zb0 HB)) : w.heap.size ≤ gb288)); clear HB; have HB := n0_; have BK288 := n1_; have GW288 := n2_; have GE288 := n3_; clear n0_ n1_ n2_ n3_; clear hb hbox hg)); try go_wp2_with (first | ((with_reducible refine jV (N := 3) rfl ?_); refine jU ?hg (N := 3) ?hd (cs := #[.int .i64 a1_0, .slice A1_1 l1_1.length c1_1]) (t := 28) ?hr ?_; (case hd => rfl); (case hg => rfl); (case hr => first | (go_simp; done) | (go_simp; rfl)); intro gb288 hg w3 hbox hb; have n0_ := jA (jJ (zb0 HB) hb); have n1_ := jA (hbox); have n2_ := jA ((by rw [hg]; exact (jF (zb0 HB)) : w.heap.size ≤ gb288)); have n3_ := jA ((by rw [hg]; exact (jF (zb0 HB)) : w.heap.size ≤ gb288)); clear HB; have HB := n0_; have BK288 := n1_; have GW288 := n2_; have GE288 := n3_; clear n0_ n1_ n2_ n3_; clear hb hbox hg)))
 go_loopg [5, 6] k (fun kq v5 v6 w' => ∃ (x5_1 : Int) (x6_1 : Int), v5 = .int .i64 x5_1 ∧ v6 = .int .i64 x6_1 ∧ Aside0 (spec_l26Net.l0 kq l0 x5_1 x6_1 a1_0 l1_1 = some r) ∧ Aside0 (kq ≤ k) ∧ Aside0 (w'.heap[gb288]? = some (.cells #[.int .i64 a1_0, (.slice A1_1 l1_1.length c1_1)] 28 (0, 0))) ∧ Aside0 (Below w.heap.size w w'))
 case atStart => exact ⟨(0), (0), zz, zz, H', ⟨Nat.le_refl _⟩, ⟨by (with_reducible repeat (first | refine jG ?_ _ | refine jI ?_ | refine jH ?_ _)); exact BK288.out⟩, ⟨zb1 HB GE288⟩⟩
 case round =>
  clear H'
  try clear c1
  try clear p2
  obtain ⟨x5_1, x6_1, rfl, rfl, HA, HK1, BK288, HB⟩ := hrel
  cases gk with
  | zero => exact absurd HA.out (by simp [spec_l26Net.l0])
  | succ k1 =>
   have H := HA.out
   clear HA
   simp only [spec_l26Net.l0] at H
   by_cases c4 : x6_1 < (l0.length : Int)
   ·rw [if_pos c4] at H
    have c4b0 : decide (x6_1 < (l0.length : Int)) = true := jQ c4
    clear c4
    by_cases c5 : 0 ≤ x6_1
    ·rw [if_pos c5] at H
     have c5b0 : decide (0 ≤ x6_1) = true := jQ c5
     clear c5
     by_cases c6 : x6_1 < (l1_1.length : Int)
     ·rw [if_pos c6] at H
      have c6b0 : decide (x6_1 < (l1_1.length : Int)) = true := jQ c6
      clear c6
      have H' := jA H
      clear H
      have p289 : 0 ≤ (x6_1 : Int) := jE za
      have q289 : x6_1 < (l0.length : Int) := jE za
      obtain ⟨ad289, e289, hx289_0, hx289_1, hx289_2, hx289_3, hx289_4, hx289_5, hx289_6, hx289_7, hx289_8⟩ := at_T65 HR0.out x6_1 p289 q289
      cases e289
      replace hx289_0 := (HB.out.cell (jB w _ hx289_0)).trans hx289_0
      replace hx289_1 := (HB.out.cell (jB w _ hx289_1)).trans hx289_1
      replace hx289_2 := (HB.out.cell (jB w _ hx289_2)).trans hx289_2
      replace hx289_3 := (HB.out.cell (jB w _ hx289_3)).trans hx289_3
      replace hx289_4 := (HB.out.cell (jB w _ hx289_4)).trans hx289_4
      replace hx289_5 := (HB.out.cell (jB w _ hx289_5)).trans hx289_5
      replace hx289_6 := (HB.out.cell (jB w _ hx289_6)).trans hx289_6
      replace hx289_7 := (HB.out.cell (jB w _ hx289_7)).trans hx289_7
      replace hx289_8 := (HB.out.cell (jB w _ hx289_8)).trans hx289_8
      replace p289 := eq_true p289
      replace q289 := eq_true q289
      have hcz7_0 : wr.cell? ⟨gb288, 0, none⟩ = some (.int .i64 a1_0) := (jD BK288.out 0).trans rfl
      have hcz7_1 : wr.cell? ⟨gb288, 1, none⟩ = some (.slice A1_1 l1_1.length c1_1) := (jD BK288.out 1).trans rfl
      have hfz7_0 := jC BK288.out 0
      have hfz7_1 := jC BK288.out 1
      have p290 : 0 ≤ (x6_1 : Int) := jE za
      have q290 : x6_1 < (l1_1.length : Int) := jE za
      obtain ⟨ad290, e290, hx290_0⟩ := Kd.at_int HR1_1.out x6_1 p290 q290
      cases e290
      replace hx290_0 := (HB.out.cell (jB w _ hx290_0)).trans hx290_0
      replace p290 := eq_true p290
      replace q290 := eq_true q290
      go_wp2
      repeat (go_quiet (fail); try go_wp2)
      go_roundg k1
      case measure => have := HK1.out; omega
      case rel => exact ⟨(wrap64 (x5_1 + (wrap64 (((rd_T65 l0 x6_1).f7) * (rd l1_1 x6_1))))), (wrap64 (x6_1 + 1)), zz, zz, H', ⟨by have := HK1.out; omega⟩, ⟨by (with_reducible repeat (first | refine jG ?_ _ | refine jI ?_ | refine jH ?_ _)); exact BK288.out⟩, ⟨zb1 HB GE288⟩⟩
     ·rw [if_neg c6] at H
      exact absurd H (by simp)
    ·rw [if_neg c5] at H
     exact absurd H (by simp)
   ·rw [if_neg c4] at H
    have c4b0 : decide (x6_1 < (l0.length : Int)) = false := jY c4
    clear c4
    obtain rfl := jM H
    go_wp2
    repeat (go_quiet (fail); try go_wp2)
    go_ret
    exact ⟨by first | rfl | (simp [errW_none, errW_some] <;> rfl) | (simp [*, errW_none, errW_some] <;> rfl), zb1 HB GE288⟩

/-! ### spec_l26Mixed: function 67 -/
def spec_l26Mixed.l0 : Nat → List (S65) → Bool → Bool → Int → Int → List Int → Option (Bool)
 | 0, _, _, _, _, _, _ => none
 | k + 1, x0, x5, x6, x7, x292000, x292001 => if x7 < (x0.length : Int) then (if 0 ≤ x7 then (if x7 < (x292001.length : Int) then (if (rd x292001 x7) > 0 then (if x5 = true then (if x6 = true then (spec_l26Mixed.l0 k x0 true true (wrap64 (x7 + 1)) x292000 x292001) else (spec_l26Mixed.l0 k x0 true (((rd_T65 x0 x7).f8) != 3) (wrap64 (x7 + 1)) x292000 x292001)) else (if x6 = true then (spec_l26Mixed.l0 k x0 (((rd_T65 x0 x7).f8) == 3) true (wrap64 (x7 + 1)) x292000 x292001) else (spec_l26Mixed.l0 k x0 (((rd_T65 x0 x7).f8) == 3) (((rd_T65 x0 x7).f8) != 3) (wrap64 (x7 + 1)) x292000 x292001))) else (spec_l26Mixed.l0 k x0 x5 x6 (wrap64 (x7 + 1)) x292000 x292001)) else (none)) else (none)) else (if x5 = true then (some x6) else (some false))
def spec_l26Mixed.f (k : Nat) (l0 : List (S65)) (a1_0 : Int) (l1_1 : List Int) : Option (Bool) := spec_l26Mixed.l0 k l0 false false 0 a1_0 l1_1
theorem spec_l26Mixed.mono_l : ∀ k, (∀ y0 y1 y2 y3 y4 y5, LeO (spec_l26Mixed.l0 k y0 y1 y2 y3 y4 y5) (spec_l26Mixed.l0 (k + 1) y0 y1 y2 y3 y4 y5))
 | 0 => fun _ _ _ _ _ _ r h => by simp [spec_l26Mixed.l0] at h
 | k + 1 => by
  have ih0 := spec_l26Mixed.mono_l k
  ·intro y0 y1 y2 y3 y4 y5
   unfold spec_l26Mixed.l0
   repeat' first
   | (with_reducible exact ih0 _ _ _ _ _ _)
   | (with_reducible exact LeO.refl _)
   | (with_reducible exact LeO.none _)
   | (with_reducible refine LeO.ite ?_ ?_)
   | (with_reducible refine LeO.bind ?_ (fun _ => ?_))
   | exact ih0 _ _ _ _ _ _
   | exact LeO.none _
   | refine LeO.ite ?_ ?_
   | refine LeO.bind ?_ (fun _ => ?_)
theorem spec_l26Mixed.mono : ∀ a0 a1 a2 k, LeO (spec_l26Mixed.f k a0 a1 a2) (spec_l26Mixed.f (k + 1) a0 a1 a2) := by
 intro a0 a1 a2 k
 have ih0 := spec_l26Mixed.mono_l k
 unfold spec_l26Mixed.f
 repeat' first
   | (with_reducible exact ih0 _ _ _ _ _ _)
   | (with_reducible exact LeO.refl _)
   | (with_reducible exact LeO.none _)
   | (with_reducible refine LeO.ite ?_ ?_)
   | (with_reducible refine LeO.bind ?_ (fun _ => ?_))
   | exact ih0 _ _ _ _ _ _
   | exact LeO.none _
   | refine LeO.ite ?_ ?_
   | refine LeO.bind ?_ (fun _ => ?_)
set_option maxHeartbeats 8000000 in
set_option maxRecDepth 100000 in
theorem spec_l26Mixed.calls (k : Nat) (A0 : Option Addr) (c0 : Nat) (l0 : List (S65)) (a1_0 : Int) (A1_1 : Option Addr) (c1_1 : Nat) (l1_1 : List Int) (r : Bool) (w : World) (hr0 : Kd.C k65 w A0 l0.length l0) (hc0 : l0.length ≤ c0) (hr1_1 : Kd.C (Kd.int .i64) w A1_1 l1_1.length l1_1) (hc1_1 : l1_1.length ≤ c1_1) (h : spec_l26Mixed.f k l0 a1_0 l1_1 = some r) :
  Calls Try.prog 67 #[.slice A0 l0.length c0, .agg #[.int .i64 a1_0, .slice A1_1 l1_1.length c1_1]] w fun e w' => e = .returned (.bool r) ∧ Below w.heap.size w w' := by
 have hu28 := Try.underlying28
 have HR0 := jA hr0
 have HC0 := jA hc0
 clear hr0 hc0
 have HR1_1 := jA hr1_1
 have HC1_1 := jA hc1_1
 clear hr1_1 hc1_1
 have HB := jA (Below.refl w.heap.size w)
 have H : (spec_l26Mixed.l0 k l0 false false 0 a1_0 l1_1) = some r := h
 clear h
 have H' := jA H
 clear H
 go_enter Try.func67, Try.ntmps67
 go_wp2_with (first | ((with_reducible refine jV (N := 3) rfl ?_); refine jU ?hg (N := 3) ?hd (cs := #[.int .i64 a1_0, .slice A1_1 l1_1.length c1_1]) (t := 28) ?hr ?_; (case hd => rfl); (case hg => rfl); (case hr => first | (go_simp; done) | (go_simp; rfl)); intro gb291 hg w3 hbox hb; have n0_ := jA (jJ (zb0 HB) hb); have n1_ := jA (hbox); have n2_ := jA ((by rw [hg]; exact (jF (zb0 HB)) : w.heap.size ≤ gb291)); have n3_ := jA ((by rw [hg]; exact (jF (zb0 HB)) : w.heap.size ≤ gb291)); clear HB; have HB := n0_; have BK291 := n1_; have GW291 := n2_; have GE291 := n3_; clear n0_ n1_ n2_ n3_; clear hb hbox hg))
 go_loopg [5, 6, 7] k (fun kq v5 v6 v7 w' => ∃ (x5_1 : Bool) (x6_1 : Bool) (x7_1 : Int), v5 = .bool x5_1 ∧ v6 = .bool x6_1 ∧ v7 = .int .i64 x7_1 ∧ Aside0 (spec_l26Mixed.l0 kq l0 x5_1 x6_1 x7_1 a1_0 l1_1 = some r) ∧ Aside0 (kq ≤ k) ∧ Aside0 (w'.heap[gb291]? = some (.cells #[.int .i64 a1_0, (.slice A1_1 l1_1.length c1_1)] 28 (0, 0))) ∧ Aside0 (Below w.heap.size w w'))
 case atStart => exact ⟨(false), (false), (0), zz, zz, zz, H', ⟨Nat.le_refl _⟩, ⟨by (with_reducible repeat (first | refine jG ?_ _ | refine jI ?_ | refine jH ?_ _)); exact BK291.out⟩, ⟨zb1 HB GE291⟩⟩
 case round =>
  clear H'
  try clear c1
  try clear p2
  obtain ⟨x5_1, x6_1, x7_1, rfl, rfl, rfl, HA, HK1, BK291, HB⟩ := hrel
  cases gk with
  | zero => exact absurd HA.out (by simp [spec_l26Mixed.l0])
  | succ k1 =>
   have H := HA.out
   clear HA
   simp only [spec_l26Mixed.l0] at H
   by_cases c4 : x7_1 < (l0.length : Int)
   ·rw [if_pos c4] at H
    have c4b0 : decide (x7_1 < (l0.length : Int)) = true := jQ c4
    clear c4
    by_cases c5 : 0 ≤ x7_1
    ·rw [if_pos c5] at H
     have c5b0 : decide (0 ≤ x7_1) = true := jQ c5
     clear c5
     by_cases c6 : x7_1 < (l1_1.length : Int)
     ·rw [if_pos c6] at H
      have c6b0 : decide (x7_1 < (l1_1.length : Int)) = true := jQ c6
      clear c6
      by_cases c7 : (rd l1_1 x7_1) > 0
      ·rw [if_pos c7] at H
       have c7b0 : decide (0 < (rd l1_1 x7_1)) = true := jQ c7
       clear c7
       by_cases c8 : x5_1 = true
       ·subst c8
        have H1 : (if x6_1 = true then (spec_l26Mixed.l0 k1 l0 true true (wrap64 (x7_1 + 1)) a1_0 l1_1) else (spec_l26Mixed.l0 k1 l0 true (((rd_T65 l0 x7_1).f8) != 3) (wrap64 (x7_1 + 1)) a1_0 l1_1)) = some r := by rw [if_pos rfl] at H; exact H
        clear H
        have H := H1
        clear H1
        by_cases c9 : x6_1 = true
        ·subst c9
         have H1 : (spec_l26Mixed.l0 k1 l0 true true (wrap64 (x7_1 + 1)) a1_0 l1_1) = some r := by rw [if_pos rfl] at H; exact H
         clear H
         have H := H1
         clear H1
         have H' := jA H
         clear H
         have hcz10_0 : wr.cell? ⟨gb291, 0, none⟩ = some (.int .i64 a1_0) := (jD BK291.out 0).trans rfl
         have hcz10_1 : wr.cell? ⟨gb291, 1, none⟩ = some (.slice A1_1 l1_1.length c1_1) := (jD BK291.out 1).trans rfl
         have hfz10_0 := jC BK291.out 0
         have hfz10_1 := jC BK291.out 1
         have p292 : 0 ≤ (x7_1 : Int) := jE za
         have q292 : x7_1 < (l1_1.length : Int) := jE za
         obtain ⟨ad292, e292, hx292_0⟩ := Kd.at_int HR1_1.out x7_1 p292 q292
         cases e292
         replace hx292_0 := (HB.out.cell (jB w _ hx292_0)).trans hx292_0
         replace p292 := eq_true p292
         replace q292 := eq_true q292
         go_wp2
         go_roundg k1
         case measure => have := HK1.out; omega
         case rel => exact ⟨(true), (true), (wrap64 (x7_1 + 1)), zz, zz, zz, H', ⟨by have := HK1.out; omega⟩, ⟨by (with_reducible repeat (first | refine jG ?_ _ | refine jI ?_ | refine jH ?_ _)); exact BK291.out⟩, ⟨zb1 HB GE291⟩⟩
        ·replace c9 := Bool.eq_false_iff.mpr c9
         subst c9
         have H1 : (spec_l26Mixed.l0 k1 l0 true (((rd_T65 l0 x7_1).f8) != 3) (wrap64 (x7_1 + 1)) a1_0 l1_1) = some r := by rw [if_neg (show ¬ (false = true) by decide)] at H; exact H
         clear H
         have H := H1
         clear H1
         have H' := jA H
         clear H
         have hcz11_0 : wr.cell? ⟨gb291, 0, none⟩ = some (.int .i64 a1_0) := (jD BK291.out 0).trans rfl
         have hcz11_1 : wr.cell? ⟨gb291, 1, none⟩ = some (.slice A1_1 l1_1.length c1_1) := (jD BK291.out 1).trans rfl
         have hfz11_0 := jC BK291.out 0
         have hfz11_1 := jC BK291.out 1
         have p292 : 0 ≤ (x7_1 : Int) := jE za
         have q292 : x7_1 < (l1_1.length : Int) := jE za
         obtain ⟨ad292, e292, hx292_0⟩ := Kd.at_int HR1_1.out x7_1 p292 q292
         cases e292
         replace hx292_0 := (HB.out.cell (jB w _ hx292_0)).trans hx292_0
         replace p292 := eq_true p292
         replace q292 := eq_true q292
         have p293 : 0 ≤ (x7_1 : Int) := jE za
         have q293 : x7_1 < (l0.length : Int) := jE za
         obtain ⟨ad293, e293, hx293_0, hx293_1, hx293_2, hx293_3, hx293_4, hx293_5, hx293_6, hx293_7, hx293_8⟩ := at_T65 HR0.out x7_1 p293 q293
         cases e293
         replace hx293_0 := (HB.out.cell (jB w _ hx293_0)).trans hx293_0
         replace hx293_1 := (HB.out.cell (jB w _ hx293_1)).trans hx293_1
         replace hx293_2 := (HB.out.cell (jB w _ hx293_2)).trans hx293_2
         replace hx293_3 := (HB.out.cell (jB w _ hx293_3)).trans hx293_3
         replace hx293_4 := (HB.out.cell (jB w _ hx293_4)).trans hx293_4
         replace hx293_5 := (HB.out.cell (jB w _ hx293_5)).trans hx293_5
         replace hx293_6 := (HB.out.cell (jB w _ hx293_6)).trans hx293_6
         replace hx293_7 := (HB.out.cell (jB w _ hx293_7)).trans hx293_7
         replace hx293_8 := (HB.out.cell (jB w _ hx293_8)).trans hx293_8
         replace p293 := eq_true p293
         replace q293 := eq_true q293
         go_wp2
         go_roundg k1
         case measure => have := HK1.out; omega
         case rel => exact ⟨(true), ((((rd_T65 l0 x7_1).f8) != 3)), (wrap64 (x7_1 + 1)), zz, zz, zz, H', ⟨by have := HK1.out; omega⟩, ⟨by (with_reducible repeat (first | refine jG ?_ _ | refine jI ?_ | refine jH ?_ _)); exact BK291.out⟩, ⟨zb1 HB GE291⟩⟩
       ·replace c8 := Bool.eq_false_iff.mpr c8
        subst c8
        have H1 : (if x6_1 = true then (spec_l26Mixed.l0 k1 l0 (((rd_T65 l0 x7_1).f8) == 3) true (wrap64 (x7_1 + 1)) a1_0 l1_1) else (spec_l26Mixed.l0 k1 l0 (((rd_T65 l0 x7_1).f8) == 3) (((rd_T65 l0 x7_1).f8) != 3) (wrap64 (x7_1 + 1)) a1_0 l1_1)) = some r := by rw [if_neg (show ¬ (false = true) by decide)] at H; exact H
        clear H
        have H := H1
        clear H1
        by_cases c12 : x6_1 = true
        ·subst c12
         have H1 : (spec_l26Mixed.l0 k1 l0 (((rd_T65 l0 x7_1).f8) == 3) true (wrap64 (x7_1 + 1)) a1_0 l1_1) = some r := by rw [if_pos rfl] at H; exact H
         clear H
         have H := H1
         clear H1
         have H' := jA H
         clear H
         have hcz13_0 : wr.cell? ⟨gb291, 0, none⟩ = some (.int .i64 a1_0) := (jD BK291.out 0).trans rfl
         have hcz13_1 : wr.cell? ⟨gb291, 1, none⟩ = some (.slice A1_1 l1_1.length c1_1) := (jD BK291.out 1).trans rfl
         have hfz13_0 := jC BK291.out 0
         have hfz13_1 := jC BK291.out 1
         have p292 : 0 ≤ (x7_1 : Int) := jE za
         have q292 : x7_1 < (l1_1.length : Int) := jE za
         obtain ⟨ad292, e292, hx292_0⟩ := Kd.at_int HR1_1.out x7_1 p292 q292
         cases e292
         replace hx292_0 := (HB.out.cell (jB w _ hx292_0)).trans hx292_0
         replace p292 := eq_true p292
         replace q292 := eq_true q292
         have p294 : 0 ≤ (x7_1 : Int) := jE za
         have q294 : x7_1 < (l0.length : Int) := jE za
         obtain ⟨ad294, e294, hx294_0, hx294_1, hx294_2, hx294_3, hx294_4, hx294_5, hx294_6, hx294_7, hx294_8⟩ := at_T65 HR0.out x7_1 p294 q294
         cases e294
         replace hx294_0 := (HB.out.cell (jB w _ hx294_0)).trans hx294_0
         replace hx294_1 := (HB.out.cell (jB w _ hx294_1)).trans hx294_1
         replace hx294_2 := (HB.out.cell (jB w _ hx294_2)).trans hx294_2
         replace hx294_3 := (HB.out.cell (jB w _ hx294_3)).trans hx294_3
         replace hx294_4 := (HB.out.cell (jB w _ hx294_4)).trans hx294_4
         replace hx294_5 := (HB.out.cell (jB w _ hx294_5)).trans hx294_5
         replace hx294_6 := (HB.out.cell (jB w _ hx294_6)).trans hx294_6
         replace hx294_7 := (HB.out.cell (jB w _ hx294_7)).trans hx294_7
         replace hx294_8 := (HB.out.cell (jB w _ hx294_8)).trans hx294_8
         replace p294 := eq_true p294
         replace q294 := eq_true q294
         go_wp2
         go_roundg k1
         case measure => have := HK1.out; omega
         case rel => exact ⟨((((rd_T65 l0 x7_1).f8) == 3)), (true), (wrap64 (x7_1 + 1)), zz, zz, zz, H', ⟨by have := HK1.out; omega⟩, ⟨by (with_reducible repeat (first | refine jG ?_ _ | refine jI ?_ | refine jH ?_ _)); exact BK291.out⟩, ⟨zb1 HB GE291⟩⟩
        ·replace c12 := Bool.eq_false_iff.mpr c12
         subst c12
         have H1 : (spec_l26Mixed.l0 k1 l0 (((rd_T65 l0 x7_1).f8) == 3) (((rd_T65 l0 x7_1).f8) != 3) (wrap64 (x7_1 + 1)) a1_0 l1_1) = some r := by rw [if_neg (show ¬ (false = true) by decide)] at H; exact H
         clear H
         have H := H1
         clear H1
         have H' := jA H
         clear H
         have hcz14_0 : wr.cell? ⟨gb291, 0, none⟩ = some (.int .i64 a1_0) := (jD BK291.out 0).trans rfl
         have hcz14_1 : wr.cell? ⟨gb291, 1, none⟩ = some (.slice A1_1 l1_1.length c1_1) := (jD BK291.out 1).trans rfl
         have hfz14_0 := jC BK291.out 0
         have hfz14_1 := jC BK291.out 1
         have p292 : 0 ≤ (x7_1 : Int) := jE za
         have q292 : x7_1 < (l1_1.length : Int) := jE za
         obtain ⟨ad292, e292, hx292_0⟩ := Kd.at_int HR1_1.out x7_1 p292 q292
         cases e292
         replace hx292_0 := (HB.out.cell (jB w _ hx292_0)).trans hx292_0
         replace p292 := eq_true p292
         replace q292 := eq_true q292
         have p294 : 0 ≤ (x7_1 : Int) := jE za
         have q294 : x7_1 < (l0.length : Int) := jE za
         obtain ⟨ad294, e294, hx294_0, hx294_1, hx294_2, hx294_3, hx294_4, hx294_5, hx294_6, hx294_7, hx294_8⟩ := at_T65 HR0.out x7_1 p294 q294
         cases e294
         replace hx294_0 := (HB.out.cell (jB w _ hx294_0)).trans hx294_0
         replace hx294_1 := (HB.out.cell (jB w _ hx294_1)).trans hx294_1
         replace hx294_2 := (HB.out.cell (jB w _ hx294_2)).trans hx294_2
         replace hx294_3 := (HB.out.cell (jB w _ hx294_3)).trans hx294_3
         replace hx294_4 := (HB.out.cell (jB w _ hx294_4)).trans hx294_4
         replace hx294_5 := (HB.out.cell (jB w _ hx294_5)).trans hx294_5
         replace hx294_6 := (HB.out.cell (jB w _ hx294_6)).trans hx294_6
         replace hx294_7 := (HB.out.cell (jB w _ hx294_7)).trans hx294_7
         replace hx294_8 := (HB.out.cell (jB w _ hx294_8)).trans hx294_8
         replace p294 := eq_true p294
         replace q294 := eq_true q294
         have p295 : 0 ≤ (x7_1 : Int) := jE za
         have q295 : x7_1 < (l0.length : Int) := jE za
         obtain ⟨ad295, e295, hx295_0, hx295_1, hx295_2, hx295_3, hx295_4, hx295_5, hx295_6, hx295_7, hx295_8⟩ := at_T65 HR0.out x7_1 p295 q295
         obtain rfl : ad294 = ad295 := (by injection e295)
         replace hx295_0 := (HB.out.cell (jB w _ hx295_0)).trans hx295_0
         replace hx295_1 := (HB.out.cell (jB w _ hx295_1)).trans hx295_1
         replace hx295_2 := (HB.out.cell (jB w _ hx295_2)).trans hx295_2
         replace hx295_3 := (HB.out.cell (jB w _ hx295_3)).trans hx295_3
         replace hx295_4 := (HB.out.cell (jB w _ hx295_4)).trans hx295_4
         replace hx295_5 := (HB.out.cell (jB w _ hx295_5)).trans hx295_5
         replace hx295_6 := (HB.out.cell (jB w _ hx295_6)).trans hx295_6
         replace hx295_7 := (HB.out.cell (jB w _ hx295_7)).trans hx295_7
         replace hx295_8 := (HB.out.cell (jB w _ hx295_8)).trans hx295_8
         replace p295 := eq_true p295
         replace q295 := eq_true q295
         go_wp2
         go_roundg k1
         case measure => have := HK1.out; omega
         case rel => exact ⟨((((rd_T65 l0 x7_1).f8) == 3)), ((((rd_T65 l0 x7_1).f8) != 3)), (wrap64 (x7_1 + 1)), zz, zz, zz, H', ⟨by have := HK1.out; omega⟩, ⟨by (with_reducible repeat (first | refine jG ?_ _ | refine jI ?_ | refine jH ?_ _)); exact BK291.out⟩, ⟨zb1 HB GE291⟩⟩
      ·rw [if_neg c7] at H
       have c7b0 : decide (0 < (rd l1_1 x7_1)) = false := jY c7
       clear c7
       have H' := jA H
       clear H
       have hcz15_0 : wr.cell? ⟨gb291, 0, none⟩ = some (.int .i64 a1_0) := (jD BK291.out 0).trans rfl
       have hcz15_1 : wr.cell? ⟨gb291, 1, none⟩ = some (.slice A1_1 l1_1.length c1_1) := (jD BK291.out 1).trans rfl
       have hfz15_0 := jC BK291.out 0
       have hfz15_1 := jC BK291.out 1
       have p292 : 0 ≤ (x7_1 : Int) := jE za
       have q292 : x7_1 < (l1_1.length : Int) := jE za
       obtain ⟨ad292, e292, hx292_0⟩ := Kd.at_int HR1_1.out x7_1 p292 q292
       cases e292
       replace hx292_0 := (HB.out.cell (jB w _ hx292_0)).trans hx292_0
       replace p292 := eq_true p292
       replace q292 := eq_true q292
       go_wp2
       go_roundg k1
       case measure => have := HK1.out; omega
       case rel => exact ⟨(x5_1), (x6_1), (wrap64 (x7_1 + 1)), zz, zz, zz, H', ⟨by have := HK1.out; omega⟩, ⟨by (with_reducible repeat (first | refine jG ?_ _ | refine jI ?_ | refine jH ?_ _)); exact BK291.out⟩, ⟨zb1 HB GE291⟩⟩
     ·rw [if_neg c6] at H
      exact absurd H (by simp)
    ·rw [if_neg c5] at H
     exact absurd H (by simp)
   ·rw [if_neg c4] at H
    have c4b0 : decide (x7_1 < (l0.length : Int)) = false := jY c4
    clear c4
    by_cases c16 : x5_1 = true
    ·subst c16
     have H1 : (some x6_1) = some r := by rw [if_pos rfl] at H; exact H
     clear H
     have H := H1
     clear H1
     obtain rfl := jM H
     go_wp2
     go_ret
     exact ⟨by first | rfl | (simp [errW_none, errW_some] <;> rfl) | (simp [*, errW_none, errW_some] <;> rfl), zb1 HB GE291⟩
    ·replace c16 := Bool.eq_false_iff.mpr c16
     subst c16
     have H1 : (some false) = some r := by rw [if_neg (show ¬ (false = true) by decide)] at H; exact H
     clear H
     have H := H1
     clear H1
     obtain rfl := jM H
     go_wp2
     go_ret
     exact ⟨by first | rfl | (simp [errW_none, errW_some] <;> rfl) | (simp [*, errW_none, errW_some] <;> rfl), zb1 HB GE291⟩

/-! ### spec_l26Lawful: function 65 -/
def spec_l26Lawful.f (k : Nat) (l0 : List (S65)) (a1_0 : Int) (l1_1 : List Int) : Option (Bool) := (spec_l26Net.f k l0 a1_0 l1_1).bind fun t297 => (if t297 ≤ a1_0 then ((spec_l26Mixed.f k l0 a1_0 l1_1).bind fun t298 => (some (!t298))) else (some false))
theorem spec_l26Lawful.mono : ∀ a0 a1 a2 k, LeO (spec_l26Lawful.f k a0 a1 a2) (spec_l26Lawful.f (k + 1) a0 a1 a2) := by
 intro a0 a1 a2 k
 unfold spec_l26Lawful.f
 repeat' first
   | (with_reducible exact spec_l26Mixed.mono _ _ _ _)
   | (with_reducible exact spec_l26Net.mono _ _ _ _)
   | (with_reducible exact LeO.refl _)
   | (with_reducible exact LeO.none _)
   | (with_reducible refine LeO.ite ?_ ?_)
   | (with_reducible refine LeO.bind ?_ (fun _ => ?_))
   | exact spec_l26Mixed.mono _ _ _ _
   | exact spec_l26Net.mono _ _ _ _
   | exact LeO.none _
   | refine LeO.ite ?_ ?_
   | refine LeO.bind ?_ (fun _ => ?_)
def spec_l26Lawful.T1 : Bool × List (List Nat × List Nat) := (true, [([], []), ([], []), ([0, 1], [0, 1]), ([], []), ([3], [3]), ([2, 4], [2, 4]), ([5, 2], [5]), ([6], [6]), ([6], [6]), ([7, 8, 6, 6], [6, 7, 8]), ([9, 6], [6, 9]), ([6, 10], [6, 10]), ([11, 9, 0, 1, 2, 3, 4, 5, 6, 7, 8, 9, 10, 11], [11])])
def spec_l26Lawful.B1 : List Nat := [0, 0, 3, 0, 8, 31, 63, 127, 127, 511, 1023, 2047, 4095]
theorem spec_l26Lawful.tab1 : rtab .any (opsOf Try.f65 1) = spec_l26Lawful.T1 := by kernel_rfl
theorem spec_l26Lawful.bits1 : waitsOk spec_l26Lawful.T1.2 spec_l26Lawful.B1 = true := by kernel_rfl
set_option maxHeartbeats 8000000 in
set_option maxRecDepth 100000 in
theorem spec_l26Lawful.calls (k : Nat) (A0 : Option Addr) (c0 : Nat) (l0 : List (S65)) (a1_0 : Int) (A1_1 : Option Addr) (c1_1 : Nat) (l1_1 : List Int) (r : Bool) (w : World) (hr0 : Kd.C k65 w A0 l0.length l0) (hc0 : l0.length ≤ c0) (hr1_1 : Kd.C (Kd.int .i64) w A1_1 l1_1.length l1_1) (hc1_1 : l1_1.length ≤ c1_1) (h : spec_l26Lawful.f k l0 a1_0 l1_1 = some r) :
  Calls Try.prog 65 #[.slice A0 l0.length c0, .agg #[.int .i64 a1_0, .slice A1_1 l1_1.length c1_1]] w fun e w' => e = .returned (.bool r) ∧ Below w.heap.size w w' := by
 have hu28 := Try.underlying28
 have HR0 := jA hr0
 have HC0 := jA hc0
 clear hr0 hc0
 have HR1_1 := jA hr1_1
 have HC1_1 := jA hc1_1
 clear hr1_1 hc1_1
 have HB := jA (Below.refl w.heap.size w)
 have H : ((spec_l26Net.f k l0 a1_0 l1_1).bind fun t297 => (if t297 ≤ a1_0 then ((spec_l26Mixed.f k l0 a1_0 l1_1).bind fun t298 => (some (!t298))) else (some false))) = some r := h
 clear h
 replace H := jP.mp H
 obtain ⟨t297, A30, H⟩ := H
 replace H : (if t297 ≤ a1_0 then ((spec_l26Mixed.f k l0 a1_0 l1_1).bind fun t298 => (some (!t298))) else (some false)) = some r := H
 have A3 := jA A30
 clear A30
 by_cases c4 : t297 ≤ a1_0
 ·rw [if_pos c4] at H
  have c4b0 : decide (t297 ≤ a1_0) = true := jQ c4
  clear c4
  replace H := jP.mp H
  obtain ⟨t298, A50, H⟩ := H
  replace H : (some (!t298)) = some r := H
  have A5 := jA A50
  clear A50
  obtain rfl := jM H
  go_enter Try.func65, Try.ntmps65
  try go_wp2_with (first | ((with_reducible refine jV (N := 3) rfl ?_); refine jU ?hg (N := 3) ?hd (cs := #[.int .i64 a1_0, .slice A1_1 l1_1.length c1_1]) (t := 28) ?hr ?_; (case hd => rfl); (case hg => rfl); (case hr => first | (go_simp; done) | (go_simp; rfl)); intro gb296 hg w6 hbox hb; have n0_ := jA (jJ (zb0 HB) hb); have n1_ := jA (hbox); have n2_ := jA ((by rw [hg]; exact (jF (zb0 HB)) : w.heap.size ≤ gb296)); have n3_ := jA ((by rw [hg]; exact (jF (zb0 HB)) : w.heap.size ≤ gb296)); clear HB; have HB := n0_; have BK296 := n1_; have GW296 := n2_; have GE296 := n3_; clear n0_ n1_ n2_ n3_; clear hb hbox hg))
  have n0_ := jA (jI BK296.out)
  have n1_ := jA (below_drew1 HB.out)
  clear BK296
  clear HB
  have BK296 := n0_
  have HB := n1_
  clear n0_ n1_
  refine start_ (n := 13) (S := fun w' => w'.cell? ⟨gb296, 0, none⟩ = some (.int .i64 a1_0) ∧ w'.cell? ⟨gb296, 1, none⟩ = some (.slice A1_1 l1_1.length c1_1)) (ds := []) m13_0 zr rfl rfl ⟨(jD BK296.out 0).trans rfl, (jD BK296.out 1).trans rfl⟩ (fun hHeld => ?_); refine with_tabW spec_l26Lawful.tab1 spec_l26Lawful.bits1 (fun HT_ HW_ => ?_)
  generalize w6.drew = w7 at BK296 HB hHeld ⊢
  refine zp HT_ 0 5 m13_1000 ?_
  refine zp HT_ 3 8 m13_1200 ?_
  refine zt2 HT_ HW_ hHeld 1 6 m13_1a00 ?_
  refine zt2 HT_ HW_ hHeld 4 9 m13_1b00 ?_
  refine one_ (i := 2) (N := some 7) m13_1f00 rfl rfl (one_of HT_.out zr) (by decide) (fun K hK => ?_)
  refine goes_ Try.func63 zr rfl #[.slice A0 l0.length c0, .agg #[.int .i64 a1_0, .slice A1_1 l1_1.length c1_1]] (by rfl) rfl rfl zm ?_
  with_reducible refine (spec_l26Net.calls k _ _ l0 a1_0 _ _ l1_1 t297 _ ?side1 ?side2 ?side3 ?side4 A3.out).mono ?_
  (case side1 => exact zs HR0 HB)
  (case side2 => exact HC0.out)
  (case side3 => exact zs HR1_1 HB)
  (case side4 => exact HC1_1.out)
  rintro e w8 ⟨rfl, hb⟩
  refine ⟨_, rfl, ?_⟩
  have n0_ := jA (jO (g := gb296) (o := .cells #[.int .i64 a1_0, .slice A1_1 l1_1.length c1_1] 28 (0, 0)) (zk BK296) hb)
  have n1_ := jA (jJ (zb1 HB GE296) hb)
  clear BK296
  clear HB
  have BK296 := n0_
  have HB := n1_
  clear n0_ n1_
  (try clear hb)
  (try clear hb2)
  (try clear hk)
  (try clear hi)
  refine hK.out _ _ ⟨(jD BK296.out 0).trans rfl, (jD BK296.out 1).trans rfl⟩ (fun hHeld => ?_)
  clear hK K
  refine norm_ (a' := ?_) ?_ ?_
  rotate_left
  ·show Act.put _ (some 7) _ = _
   simp only [Act.put, jL, jS, jT, i64_w, i32_w]
   rfl
  refine zp HT_ 5 10 m13_1f80 ?_
  refine zp HT_ 6 11 m13_1fc0 ?_
  refine zp HT_ 7 12 m13_1fe0 ?_
  refine zt2 HT_ HW_ hHeld 8 13 m13_1ff0 ?_
  refine one_ (i := 9) (N := some 14) m13_1ff8 rfl rfl (one_of HT_.out zr) (by decide) (fun K hK => ?_)
  refine goes_ Try.func67 zr rfl #[.slice A0 l0.length c0, .agg #[.int .i64 a1_0, .slice A1_1 l1_1.length c1_1]] (by rfl) rfl rfl zm ?_
  with_reducible refine (spec_l26Mixed.calls k _ _ l0 a1_0 _ _ l1_1 t298 _ ?side1 ?side2 ?side3 ?side4 A5.out).mono ?_
  (case side1 => exact zs HR0 HB)
  (case side2 => exact HC0.out)
  (case side3 => exact zs HR1_1 HB)
  (case side4 => exact HC1_1.out)
  rintro e w9 ⟨rfl, hb⟩
  refine ⟨_, rfl, ?_⟩
  have n0_ := jA (jO (g := gb296) (o := .cells #[.int .i64 a1_0, .slice A1_1 l1_1.length c1_1] 28 (0, 0)) (zk BK296) hb)
  have n1_ := jA (jJ (zb1 HB GE296) hb)
  clear BK296
  clear HB
  have BK296 := n0_
  have HB := n1_
  clear n0_ n1_
  (try clear hb)
  (try clear hb2)
  (try clear hk)
  (try clear hi)
  refine hK.out _ _ ⟨(jD BK296.out 0).trans rfl, (jD BK296.out 1).trans rfl⟩ (fun hHeld => ?_)
  clear hK K
  refine norm_ (a' := ?_) ?_ ?_
  rotate_left
  ·show Act.put _ (some 14) _ = _
   simp only [Act.put, jL, jS, jT, i64_w, i32_w]
   rfl
  refine zp HT_ 10 15 m13_1ffc ?_
  refine zp HT_ 11 16 m13_1ffe ?_
  refine zp HT_ 12 4 m13_1fff ?_
  refine done_ (done_of HT_.out zr) ?_
  try go_wp2
  go_ret
  exact ⟨by first | rfl | (simp [errW_none, errW_some] <;> rfl) | (simp [*, errW_none, errW_some] <;> rfl), zb1 HB GE296⟩
 ·rw [if_neg c4] at H
  have c4b0 : decide (t297 ≤ a1_0) = false := jY c4
  clear c4
  obtain rfl := jM H
  go_enter Try.func65, Try.ntmps65
  try go_wp2_with (first | ((with_reducible refine jV (N := 3) rfl ?_); refine jU ?hg (N := 3) ?hd (cs := #[.int .i64 a1_0, .slice A1_1 l1_1.length c1_1]) (t := 28) ?hr ?_; (case hd => rfl); (case hg => rfl); (case hr => first | (go_simp; done) | (go_simp; rfl)); intro gb296 hg w10 hbox hb; have n0_ := jA (jJ (zb0 HB) hb); have n1_ := jA (hbox); have n2_ := jA ((by rw [hg]; exact (jF (zb0 HB)) : w.heap.size ≤ gb296)); have n3_ := jA ((by rw [hg]; exact (jF (zb0 HB)) : w.heap.size ≤ gb296)); clear HB; have HB := n0_; have BK296 := n1_; have GW296 := n2_; have GE296 := n3_; clear n0_ n1_ n2_ n3_; clear hb hbox hg))
  have n0_ := jA (jI BK296.out)
  have n1_ := jA (below_drew1 HB.out)
  clear BK296
  clear HB
  have BK296 := n0_
  have HB := n1_
  clear n0_ n1_
  refine start_ (n := 13) (S := fun w' => w'.cell? ⟨gb296, 0, none⟩ = some (.int .i64 a1_0) ∧ w'.cell? ⟨gb296, 1, none⟩ = some (.slice A1_1 l1_1.length c1_1)) (ds := []) m13_0 zr rfl rfl ⟨(jD BK296.out 0).trans rfl, (jD BK296.out 1).trans rfl⟩ (fun hHeld => ?_); refine with_tabW spec_l26Lawful.tab1 spec_l26Lawful.bits1 (fun HT_ HW_ => ?_)
  generalize w10.drew = w11 at BK296 HB hHeld ⊢
  refine zp HT_ 0 5 m13_1000 ?_
  refine zp HT_ 3 8 m13_1200 ?_
  refine zt2 HT_ HW_ hHeld 1 6 m13_1a00 ?_
  refine zt2 HT_ HW_ hHeld 4 9 m13_1b00 ?_
  refine one_ (i := 2) (N := some 7) m13_1f00 rfl rfl (one_of HT_.out zr) (by decide) (fun K hK => ?_)
  refine goes_ Try.func63 zr rfl #[.slice A0 l0.length c0, .agg #[.int .i64 a1_0, .slice A1_1 l1_1.length c1_1]] (by rfl) rfl rfl zm ?_
  with_reducible refine (spec_l26Net.calls k _ _ l0 a1_0 _ _ l1_1 t297 _ ?side1 ?side2 ?side3 ?side4 A3.out).mono ?_
  (case side1 => exact zs HR0 HB)
  (case side2 => exact HC0.out)
  (case side3 => exact zs HR1_1 HB)
  (case side4 => exact HC1_1.out)
  rintro e w12 ⟨rfl, hb⟩
  refine ⟨_, rfl, ?_⟩
  have n0_ := jA (jO (g := gb296) (o := .cells #[.int .i64 a1_0, .slice A1_1 l1_1.length c1_1] 28 (0, 0)) (zk BK296) hb)
  have n1_ := jA (jJ (zb1 HB GE296) hb)
  clear BK296
  clear HB
  have BK296 := n0_
  have HB := n1_
  clear n0_ n1_
  (try clear hb)
  (try clear hb2)
  (try clear hk)
  (try clear hi)
  refine hK.out _ _ ⟨(jD BK296.out 0).trans rfl, (jD BK296.out 1).trans rfl⟩ (fun hHeld => ?_)
  clear hK K
  refine norm_ (a' := ?_) ?_ ?_
  rotate_left
  ·show Act.put _ (some 7) _ = _
   simp only [Act.put, jL, jS, jT, i64_w, i32_w]
   rfl
  refine zp HT_ 5 10 m13_1f80 ?_
  refine zp HT_ 6 11 m13_1fc0 ?_
  refine zq HT_ 7 12 m13_1fe0 ?_
  refine zq HT_ 8 13 m13_1ff0 ?_
  refine zq HT_ 9 14 m13_1ff8 ?_
  refine zq HT_ 10 15 m13_1ffc ?_
  refine zp HT_ 11 16 m13_1ffe ?_
  refine zp HT_ 12 4 m13_1fff ?_
  refine done_ (done_of HT_.out zr) ?_
  try go_wp2
  go_ret
  exact ⟨by first | rfl | (simp [errW_none, errW_some] <;> rfl) | (simp [*, errW_none, errW_some] <;> rfl), zb1 HB GE296⟩

/-! ### spec_l03Find: function 73 -/
def spec_l03Find.l0 : Nat → List (S65) → ByteArray → Int → Option (Int)
 | 0, _, _, _ => none
 | k + 1, x0, x1, x5 => if x5 < (x0.length : Int) then (if 0 ≤ x5 then (if ((rd_T65 x0 x5).f0).toList = x1.toList then (some x5) else (spec_l03Find.l0 k x0 x1 (wrap64 (x5 + 1)))) else (none)) else (some (-1))
def spec_l03Find.f (k : Nat) (l0 : List (S65)) (a1 : ByteArray) : Option (Int) := spec_l03Find.l0 k l0 a1 0
theorem spec_l03Find.mono_l : ∀ k, (∀ y0 y1 y2, LeO (spec_l03Find.l0 k y0 y1 y2) (spec_l03Find.l0 (k + 1) y0 y1 y2))
 | 0 => fun _ _ _ r h => by simp [spec_l03Find.l0] at h
 | k + 1 => by
  have ih0 := spec_l03Find.mono_l k
  ·intro y0 y1 y2
   unfold spec_l03Find.l0
   repeat' first
   | (with_reducible exact ih0 _ _ _)
   | (with_reducible exact LeO.refl _)
   | (with_reducible exact LeO.none _)
   | (with_reducible refine LeO.ite ?_ ?_)
   | (with_reducible refine LeO.bind ?_ (fun _ => ?_))
   | exact ih0 _ _ _
   | exact LeO.none _
   | refine LeO.ite ?_ ?_
   | refine LeO.bind ?_ (fun _ => ?_)
theorem spec_l03Find.mono : ∀ a0 a1 k, LeO (spec_l03Find.f k a0 a1) (spec_l03Find.f (k + 1) a0 a1) := by
 intro a0 a1 k
 have ih0 := spec_l03Find.mono_l k
 unfold spec_l03Find.f
 repeat' first
   | (with_reducible exact ih0 _ _ _)
   | (with_reducible exact LeO.refl _)
   | (with_reducible exact LeO.none _)
   | (with_reducible refine LeO.ite ?_ ?_)
   | (with_reducible refine LeO.bind ?_ (fun _ => ?_))
   | exact ih0 _ _ _
   | exact LeO.none _
   | refine LeO.ite ?_ ?_
   | refine LeO.bind ?_ (fun _ => ?_)
set_option maxHeartbeats 8000000 in
set_option maxRecDepth 100000 in
theorem spec_l03Find.calls (k : Nat) (A0 : Option Addr) (c0 : Nat) (l0 : List (S65)) (a1 : ByteArray) (r : Int) (w : World) (hr0 : Kd.C k65 w A0 l0.length l0) (hc0 : l0.length ≤ c0) (h : spec_l03Find.f k l0 a1 = some r) :
  Calls Try.prog 73 #[.slice A0 l0.length c0, .string a1] w fun e w' => e = .returned (.int .i64 r) ∧ Drawn0 w w' := by
 have HR0 := jA hr0
 have HC0 := jA hc0
 clear hr0 hc0
 have H : (spec_l03Find.l0 k l0 a1 0) = some r := h
 clear h
 have H' := jA H
 clear H
 go_enter Try.func73, Try.ntmps73
 go_wp2
 go_loopg [5] k (fun kq v5 w' => ∃ (x5_1 : Int), v5 = .int .i64 x5_1 ∧ Aside0 (spec_l03Find.l0 kq l0 a1 x5_1 = some r) ∧ Aside0 (kq ≤ k) ∧ Drawn0 w w')
 case atStart => exact ⟨(0), zz, H', ⟨Nat.le_refl _⟩, by repeat (first | exact Drawn0.refl _ | apply Drawn0.step)⟩
 case round =>
  clear H'
  try clear p2
  obtain ⟨x5_1, rfl, HA, HK1, ⟨m1, rfl⟩⟩ := hrel
  cases gk with
  | zero => exact absurd HA.out (by simp [spec_l03Find.l0])
  | succ k1 =>
   have H := HA.out
   clear HA
   simp only [spec_l03Find.l0] at H
   by_cases c3 : x5_1 < (l0.length : Int)
   ·rw [if_pos c3] at H
    have c3b0 : decide (x5_1 < (l0.length : Int)) = true := jQ c3
    clear c3
    by_cases c4 : 0 ≤ x5_1
    ·rw [if_pos c4] at H
     have c4b0 : decide (0 ≤ x5_1) = true := jQ c4
     clear c4
     by_cases c5 : ((rd_T65 l0 x5_1).f0).toList = a1.toList
     ·rw [if_pos c5] at H
      have c5b0 : (((rd_T65 l0 x5_1).f0).toList == a1.toList) = true := beq_iff_eq.mpr c5
      have c5b1 : (((rd_T65 l0 x5_1).f0).toList != a1.toList) = false := bne_eq_false_iff_eq.mpr c5
      clear c5
      obtain rfl := jM H
      have p299 : 0 ≤ (x5_1 : Int) := jE za
      have q299 : x5_1 < (l0.length : Int) := jE za
      obtain ⟨ad299, e299, hx299_0, hx299_1, hx299_2, hx299_3, hx299_4, hx299_5, hx299_6, hx299_7, hx299_8⟩ := at_T65 HR0.out x5_1 p299 q299
      cases e299
      replace p299 := eq_true p299
      replace q299 := eq_true q299
      go_wp2
      go_ret
      exact ⟨by first | rfl | (simp; done) | (simp [*]; done), by repeat (first | exact Drawn0.refl _ | apply Drawn0.step)⟩
     ·rw [if_neg c5] at H
      have c5b0 : (((rd_T65 l0 x5_1).f0).toList == a1.toList) = false := beq_eq_false_iff_ne.mpr c5
      have c5b1 : (((rd_T65 l0 x5_1).f0).toList != a1.toList) = true := bne_iff_ne.mpr c5
      have H' := jA H
      clear H
      have p299 : 0 ≤ (x5_1 : Int) := jE za
      have q299 : x5_1 < (l0.length : Int) := jE za
      obtain ⟨ad299, e299, hx299_0, hx299_1, hx299_2, hx299_3, hx299_4, hx299_5, hx299_6, hx299_7, hx299_8⟩ := at_T65 HR0.out x5_1 p299 q299
      cases e299
      replace p299 := eq_true p299
      replace q299 := eq_true q299
      go_wp2
      go_roundg k1
      case measure => have := HK1.out; omega
      case rel => exact ⟨(wrap64 (x5_1 + 1)), zz, H', ⟨by have := HK1.out; omega⟩, by repeat (first | exact Drawn0.refl _ | apply Drawn0.step)⟩
    ·rw [if_neg c4] at H
     exact absurd H (by simp)
   ·rw [if_neg c3] at H
    have c3b0 : decide (x5_1 < (l0.length : Int)) = false := jY c3
    clear c3
    obtain rfl := jM H
    go_wp2
    go_ret
    exact ⟨by first | rfl | (simp; done) | (simp [*]; done), by repeat (first | exact Drawn0.refl _ | apply Drawn0.step)⟩

end Go.Proofs.Ytdgglhfnlljmeaa.PFnExactStorePieces
