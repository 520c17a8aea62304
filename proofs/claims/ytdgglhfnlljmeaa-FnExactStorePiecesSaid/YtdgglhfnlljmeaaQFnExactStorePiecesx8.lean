/- Functions and contracts that FnExactStorePieces reaches (9 of 17). -/
import Derived.Test.YtdgglhfnlljmeaaQFnExactStorePiecesx7
namespace Go.Proofs.Ytdgglhfnlljmeaa.PFnExactStorePieces
open Go.RowKit Go.Proofs.YtdgglhfnlljmeaaW.PrintWords Go.Proofs.YtdgglhfnlljmeaaW.PrintLast Go.Proofs.YtdgglhfnlljmeaaW.PrintMore
attribute [local go_sem] max2_int min2_int max_two min_two max_three min_three max_four min_four   -- for this text's walks alone
set_option linter.unusedVariables false
set_option linter.unusedSimpArgs false
open Go.Proofs.YtdgglhfnlljmeaaX

/-! ### impl_allWithin: function 85 -/
def impl_allWithin.l0 : Nat → Int → Int → List Int → Int → Int → Option (Bool)
 | 0, _, _, _, _, _ => none
 | k + 1, x1, x2, x9, x10, x11 => if x11 < x10 then (if 0 ≤ x11 then (if x11 < (x9.length : Int) then ((impl_within.f (rd x9 x11) x1 x2).bind fun t216 => (if t216 = true then (impl_allWithin.l0 k x1 x2 x9 x10 (wrap64 (x11 + 1))) else (some false))) else (none)) else (none)) else (some true)
def impl_allWithin.f (k : Nat) (l0 : List Int) (a1 : Int) (a2 : Int) : Option (Bool) := impl_allWithin.l0 k a1 a2 l0 (l0.length : Int) 0
theorem impl_allWithin.mono_l : ∀ k, (∀ y0 y1 y2 y3 y4, LeO (impl_allWithin.l0 k y0 y1 y2 y3 y4) (impl_allWithin.l0 (k + 1) y0 y1 y2 y3 y4))
 | 0 => fun _ _ _ _ _ r h => by simp [impl_allWithin.l0] at h
 | k + 1 => by
  have ih0 := impl_allWithin.mono_l k
  ·intro y0 y1 y2 y3 y4
   unfold impl_allWithin.l0
   repeat' first
   | (with_reducible exact ih0 _ _ _ _ _)
   | (with_reducible exact LeO.refl _)
   | (with_reducible exact LeO.none _)
   | (with_reducible refine LeO.ite ?_ ?_)
   | (with_reducible refine LeO.bind ?_ (fun _ => ?_))
   | exact ih0 _ _ _ _ _
   | exact LeO.none _
   | refine LeO.ite ?_ ?_
   | refine LeO.bind ?_ (fun _ => ?_)
theorem impl_allWithin.mono : ∀ a0 a1 a2 k, LeO (impl_allWithin.f k a0 a1 a2) (impl_allWithin.f (k + 1) a0 a1 a2) := by
 intro a0 a1 a2 k
 have ih0 := impl_allWithin.mono_l k
 unfold impl_allWithin.f
 repeat' first
   | (with_reducible exact ih0 _ _ _ _ _)
   | (with_reducible exact LeO.refl _)
   | (with_reducible exact LeO.none _)
   | (with_reducible refine LeO.ite ?_ ?_)
   | (with_reducible refine LeO.bind ?_ (fun _ => ?_))
   | exact ih0 _ _ _ _ _
   | exact LeO.none _
   | refine LeO.ite ?_ ?_
   | refine LeO.bind ?_ (fun _ => ?_)
set_option maxHeartbeats 8000000 in
set_option maxRecDepth 100000 in
theorem impl_allWithin.calls (k : Nat) (A0 : Option Addr) (c0 : Nat) (l0 : List Int) (a1 : Int) (a2 : Int) (r : Bool) (w : World) (hr0 : Kd.C (Kd.int .i64) w A0 l0.length l0) (hc0 : l0.length ≤ c0) (h : impl_allWithin.f k l0 a1 a2 = some r) :
  Calls Try.prog 85 #[.slice A0 l0.length c0, .int .i64 a1, .int .i64 a2] w fun e w' => e = .returned (.bool r) ∧ Drawn0 w w' := by
 have HR0 := jA hr0
 have HC0 := jA hc0
 clear hr0 hc0
 have H : (impl_allWithin.l0 k a1 a2 l0 (l0.length : Int) 0) = some r := h
 clear h
 have H' := jA H
 clear H
 go_enter Try.func85, Try.ntmps85
 go_wp2
 go_loopg [11] k (fun kq v11 w' => ∃ (x11_1 : Int), v11 = .int .i64 x11_1 ∧ Aside0 (impl_allWithin.l0 kq a1 a2 l0 (l0.length : Int) x11_1 = some r) ∧ Aside0 (kq ≤ k) ∧ Drawn0 w w')
 case atStart => exact ⟨(0), zz, H', ⟨Nat.le_refl _⟩, by repeat (first | exact Drawn0.refl _ | apply Drawn0.step)⟩
 case round =>
  clear H'
  try clear p2
  obtain ⟨x11_1, rfl, HA, HK1, ⟨m1, rfl⟩⟩ := hrel
  cases gk with
  | zero => exact absurd HA.out (by simp [impl_allWithin.l0])
  | succ k1 =>
   have H := HA.out
   clear HA
   simp only [impl_allWithin.l0] at H
   by_cases c4 : x11_1 < (l0.length : Int)
   ·rw [if_pos c4] at H
    have c4b0 : decide (x11_1 < (l0.length : Int)) = true := jQ c4
    clear c4
    by_cases c5 : 0 ≤ x11_1
    ·rw [if_pos c5] at H
     have c5b0 : decide (0 ≤ x11_1) = true := jQ c5
     clear c5
     by_cases c6 : x11_1 < (l0.length : Int)
     ·rw [if_pos c6] at H
      have c6b0 : decide (x11_1 < (l0.length : Int)) = true := jQ c6
      clear c6
      replace H := jP.mp H
      obtain ⟨t216, A70, H⟩ := H
      replace H : (if t216 = true then (impl_allWithin.l0 k1 a1 a2 l0 (l0.length : Int) (wrap64 (x11_1 + 1))) else (some false)) = some r := H
      have A7 := jA A70
      clear A70
      by_cases c8 : t216 = true
      ·subst c8
       have H1 : (impl_allWithin.l0 k1 a1 a2 l0 (l0.length : Int) (wrap64 (x11_1 + 1))) = some r := by rw [if_pos rfl] at H; exact H
       clear H
       have H := H1
       clear H1
       have H' := jA H
       clear H
       have p215 : 0 ≤ (x11_1 : Int) := jE za
       have q215 : x11_1 < (l0.length : Int) := jE za
       obtain ⟨ad215, e215, hx215_0⟩ := Kd.at_int HR0.out x11_1 p215 q215
       cases e215
       replace p215 := eq_true p215
       replace q215 := eq_true q215
       go_wp2_with (first | ((with_reducible refine jW (f := 61) rfl ?_); refine goesL_ (some 18) rfl rfl Try.func61 zr rfl #[.int .i64 (rd l0 x11_1), .int .i64 a1, .int .i64 a2] rfl zm ?_; (with_reducible refine (impl_within.calls (rd l0 x11_1) a1 a2 true _ A7.out).mono ?_); rintro e w' ⟨rfl, ⟨nd, rfl⟩⟩; refine ⟨_, rfl, ?_⟩))
       go_roundg k1
       case measure => have := HK1.out; omega
       case rel => exact ⟨(wrap64 (x11_1 + 1)), zz, H', ⟨by have := HK1.out; omega⟩, by repeat (first | exact Drawn0.refl _ | apply Drawn0.step)⟩
      ·replace c8 := Bool.eq_false_iff.mpr c8
       subst c8
       have H1 : (some false) = some r := by rw [if_neg (show ¬ (false = true) by decide)] at H; exact H
       clear H
       have H := H1
       clear H1
       obtain rfl := jM H
       have p215 : 0 ≤ (x11_1 : Int) := jE za
       have q215 : x11_1 < (l0.length : Int) := jE za
       obtain ⟨ad215, e215, hx215_0⟩ := Kd.at_int HR0.out x11_1 p215 q215
       cases e215
       replace p215 := eq_true p215
       replace q215 := eq_true q215
       go_wp2_with (first | ((with_reducible refine jW (f := 61) rfl ?_); refine goesL_ (some 18) rfl rfl Try.func61 zr rfl #[.int .i64 (rd l0 x11_1), .int .i64 a1, .int .i64 a2] rfl zm ?_; (with_reducible refine (impl_within.calls (rd l0 x11_1) a1 a2 false _ A7.out).mono ?_); rintro e w' ⟨rfl, ⟨nd, rfl⟩⟩; refine ⟨_, rfl, ?_⟩))
       go_ret
       exact ⟨by first | rfl | (simp; done) | (simp [*]; done), by repeat (first | exact Drawn0.refl _ | apply Drawn0.step)⟩
     ·rw [if_neg c6] at H
      exact absurd H (by simp)
    ·rw [if_neg c5] at H
     exact absurd H (by simp)
   ·rw [if_neg c4] at H
    have c4b0 : decide (x11_1 < (l0.length : Int)) = false := jY c4
    clear c4
    obtain rfl := jM H
    go_wp2
    go_ret
    exact ⟨by first | rfl | (simp; done) | (simp [*]; done), by repeat (first | exact Drawn0.refl _ | apply Drawn0.step)⟩

/-! ### impl_areCounts: function 62 -/
def impl_areCounts.f (k : Nat) (l0 : List (S65)) (l1 : List Int) : Option (Bool) := if (l1.length : Int) = (l0.length : Int) then ((impl_allWithin.f k l1 0 1000).bind fun t217 => (some t217)) else (some false)
theorem impl_areCounts.mono : ∀ a0 a1 k, LeO (impl_areCounts.f k a0 a1) (impl_areCounts.f (k + 1) a0 a1) := by
 intro a0 a1 k
 unfold impl_areCounts.f
 repeat' first
   | (with_reducible exact impl_allWithin.mono _ _ _ _)
   | (with_reducible exact LeO.refl _)
   | (with_reducible exact LeO.none _)
   | (with_reducible refine LeO.ite ?_ ?_)
   | (with_reducible refine LeO.bind ?_ (fun _ => ?_))
   | exact impl_allWithin.mono _ _ _ _
   | exact LeO.none _
   | refine LeO.ite ?_ ?_
   | refine LeO.bind ?_ (fun _ => ?_)
set_option maxHeartbeats 8000000 in
set_option maxRecDepth 100000 in
theorem impl_areCounts.calls (k : Nat) (A0 : Option Addr) (c0 : Nat) (l0 : List (S65)) (A1 : Option Addr) (c1 : Nat) (l1 : List Int) (r : Bool) (w : World) (hr0 : Kd.C k65 w A0 l0.length l0) (hc0 : l0.length ≤ c0) (hr1 : Kd.C (Kd.int .i64) w A1 l1.length l1) (hc1 : l1.length ≤ c1) (h : impl_areCounts.f k l0 l1 = some r) :
  Calls Try.prog 62 #[.slice A0 l0.length c0, .slice A1 l1.length c1] w fun e w' => e = .returned (.bool r) ∧ Drawn0 w w' := by
 have HR0 := jA hr0
 have HC0 := jA hc0
 clear hr0 hc0
 have HR1 := jA hr1
 have HC1 := jA hc1
 clear hr1 hc1
 have H : (if (l1.length : Int) = (l0.length : Int) then ((impl_allWithin.f k l1 0 1000).bind fun t217 => (some t217)) else (some false)) = some r := h
 clear h
 by_cases c3 : (l1.length : Int) = (l0.length : Int)
 ·rw [if_pos c3] at H
  have c3b0 : ((l1.length : Int) == (l0.length : Int)) = true := beq_iff_eq.mpr c3
  have c3b1 : ((l1.length : Int) != (l0.length : Int)) = false := bne_eq_false_iff_eq.mpr c3
  have c3b2 : (l1.length == l0.length) = true := by first | simpa using c3 | (simp at c3 ⊢; omega)
  clear c3
  replace H := jP.mp H
  obtain ⟨t217, A40, H⟩ := H
  replace H : (some t217) = some r := H
  have A4 := jA A40
  clear A40
  obtain rfl := jM H
  go_enter Try.func62, Try.ntmps62
  go_wp2_with (first | (go_at_call 85; (with_reducible refine (impl_allWithin.calls k _ _ l1 0 1000 t217 _ ?side1 ?side2 A4.out).mono ?_); (case side1 => repeat (first | exact HR1.out | (with_reducible refine Kd.C_alloc ?_ _) | (with_reducible refine Kd.C_drewN ?_ _) | (with_reducible refine Kd.C_drew ?_))); (case side2 => exact HC1.out); rintro e w' ⟨rfl, ⟨nd, rfl⟩⟩))
  go_ret
  exact ⟨by first | rfl | (simp; done) | (simp [*]; done), by repeat (first | exact Drawn0.refl _ | apply Drawn0.step)⟩
 ·rw [if_neg c3] at H
  have c3b0 : ((l1.length : Int) == (l0.length : Int)) = false := beq_eq_false_iff_ne.mpr c3
  have c3b1 : ((l1.length : Int) != (l0.length : Int)) = true := bne_iff_ne.mpr c3
  have c3b2 : (l1.length == l0.length) = false := by first | simpa using c3 | (simp at c3 ⊢; omega)
  obtain rfl := jM H
  go_enter Try.func62, Try.ntmps62
  go_wp2
  go_ret
  exact ⟨by first | rfl | (simp; done) | (simp [*]; done), by repeat (first | exact Drawn0.refl _ | apply Drawn0.step)⟩

/-! ### impl_IsMagazine: function 26 -/
def impl_IsMagazine.f (k : Nat) (l0 : List (S65)) (a1_0 : Int) (l1_1 : List Int) : Option (Bool) := (impl_AreArticles.f k l0).bind fun t219 => (if t219 = true then ((impl_within.f a1_0 0 1000000000).bind fun t220 => (if t220 = true then ((impl_areCounts.f k l0 l1_1).bind fun t221 => (some t221)) else (some false))) else (some false))
theorem impl_IsMagazine.mono : ∀ a0 a1 a2 k, LeO (impl_IsMagazine.f k a0 a1 a2) (impl_IsMagazine.f (k + 1) a0 a1 a2) := by
 intro a0 a1 a2 k
 unfold impl_IsMagazine.f
 repeat' first
   | (with_reducible exact impl_AreArticles.mono _ _)
   | (with_reducible exact impl_areCounts.mono _ _ _)
   | (with_reducible exact LeO.refl _)
   | (with_reducible exact LeO.none _)
   | (with_reducible refine LeO.ite ?_ ?_)
   | (with_reducible refine LeO.bind ?_ (fun _ => ?_))
   | exact impl_AreArticles.mono _ _
   | exact impl_areCounts.mono _ _ _
   | exact LeO.none _
   | refine LeO.ite ?_ ?_
   | refine LeO.bind ?_ (fun _ => ?_)
set_option maxHeartbeats 8000000 in
set_option maxRecDepth 100000 in
theorem impl_IsMagazine.calls (k : Nat) (A0 : Option Addr) (c0 : Nat) (l0 : List (S65)) (a1_0 : Int) (A1_1 : Option Addr) (c1_1 : Nat) (l1_1 : List Int) (r : Bool) (w : World) (hr0 : Kd.C k65 w A0 l0.length l0) (hc0 : l0.length ≤ c0) (hr1_1 : Kd.C (Kd.int .i64) w A1_1 l1_1.length l1_1) (hc1_1 : l1_1.length ≤ c1_1) (h : impl_IsMagazine.f k l0 a1_0 l1_1 = some r) :
  Calls Try.prog 26 #[.slice A0 l0.length c0, .agg #[.int .i64 a1_0, .slice A1_1 l1_1.length c1_1]] w fun e w' => e = .returned (.bool r) ∧ Below w.heap.size w w' := by
 have hu28 := Try.underlying28
 have HR0 := jA hr0
 have HC0 := jA hc0
 clear hr0 hc0
 have HR1_1 := jA hr1_1
 have HC1_1 := jA hc1_1
 clear hr1_1 hc1_1
 have HB := jA (Below.refl w.heap.size w)
 have H : ((impl_AreArticles.f k l0).bind fun t219 => (if t219 = true then ((impl_within.f a1_0 0 1000000000).bind fun t220 => (if t220 = true then ((impl_areCounts.f k l0 l1_1).bind fun t221 => (some t221)) else (some false))) else (some false))) = some r := h
 clear h
 replace H := jP.mp H
 obtain ⟨t219, A30, H⟩ := H
 replace H : (if t219 = true then ((impl_within.f a1_0 0 1000000000).bind fun t220 => (if t220 = true then ((impl_areCounts.f k l0 l1_1).bind fun t221 => (some t221)) else (some false))) else (some false)) = some r := H
 have A3 := jA A30
 clear A30
 by_cases c4 : t219 = true
 ·subst c4
  have H1 : ((impl_within.f a1_0 0 1000000000).bind fun t220 => (if t220 = true then ((impl_areCounts.f k l0 l1_1).bind fun t221 => (some t221)) else (some false))) = some r := by rw [if_pos rfl] at H; exact H
  clear H
  have H := H1
  clear H1
  replace H := jP.mp H
  obtain ⟨t220, A50, H⟩ := H
  replace H : (if t220 = true then ((impl_areCounts.f k l0 l1_1).bind fun t221 => (some t221)) else (some false)) = some r := H
  have A5 := jA A50
  clear A50
  by_cases c6 : t220 = true
  ·subst c6
   have H1 : ((impl_areCounts.f k l0 l1_1).bind fun t221 => (some t221)) = some r := by rw [if_pos rfl] at H; exact H
   clear H
   have H := H1
   clear H1
   replace H := jP.mp H
   obtain ⟨t221, A70, H⟩ := H
   replace H : (some t221) = some r := H
   have A7 := jA A70
   clear A70
   obtain rfl := jM H
   go_enter Try.func26, Try.ntmps26
   go_wp2_with (first | ((with_reducible refine jV (N := 3) rfl ?_); refine jU ?hg (N := 3) ?hd (cs := #[.int .i64 a1_0, .slice A1_1 l1_1.length c1_1]) (t := 28) ?hr ?_; (case hd => rfl); (case hg => rfl); (case hr => first | (go_simp; done) | (go_simp; rfl)); intro gb218 hg w8 hbox hb; have n0_ := jA (jJ (zb0 HB) hb); have n1_ := jA (hbox); have n2_ := jA ((by rw [hg]; exact (jF (zb0 HB)) : w.heap.size ≤ gb218)); have n3_ := jA ((by rw [hg]; exact (jF (zb0 HB)) : w.heap.size ≤ gb218)); clear HB; have HB := n0_; have BK218 := n1_; have GW218 := n2_; have GE218 := n3_; clear n0_ n1_ n2_ n3_; clear hb hbox hg) | ((with_reducible refine jW (f := 60) rfl ?_); refine goesL_ (some 6) rfl rfl Try.func60 zr rfl #[.slice A0 l0.length c0] rfl zm ?_; (with_reducible refine (impl_AreArticles.calls k _ _ l0 true _ ?side1 ?side2 A3.out).mono ?_); (case side1 => exact zs HR0 HB); (case side2 => exact HC0.out); rintro e w9 ⟨rfl, hb⟩; refine ⟨_, rfl, ?_⟩; have n0_ := jA (jO (g := gb218) (o := .cells #[.int .i64 a1_0, .slice A1_1 l1_1.length c1_1] 28 (0, 0)) (zk BK218) hb); have n1_ := jA (jJ (zb1 HB GE218) hb); clear BK218; clear HB; have BK218 := n0_; have HB := n1_; clear n0_ n1_; (try clear hb); (try clear hb2); (try clear hk); (try clear hi); have hcz10_0 : w9.cell? ⟨gb218, 0, none⟩ = some (.int .i64 a1_0) := (jD BK218.out 0).trans rfl; have hcz10_1 : w9.cell? ⟨gb218, 1, none⟩ = some (.slice A1_1 l1_1.length c1_1) := (jD BK218.out 1).trans rfl; have hfz10_0 := jC BK218.out 0; have hfz10_1 := jC BK218.out 1) | (go_at_call 61; (with_reducible refine (impl_within.calls a1_0 0 1000000000 true _ A5.out).mono ?_); rintro e w' ⟨rfl, ⟨nd, rfl⟩⟩) | (go_at_call 62; (with_reducible refine (impl_areCounts.calls k _ _ l0 _ _ l1_1 t221 _ ?side1 ?side2 ?side3 ?side4 A7.out).mono ?_); (case side1 => repeat (first | exact HR0.out | exact (Kd.C_below HR0.out (zb1 HB GE218)) | (with_reducible refine Kd.C_alloc ?_ _) | (with_reducible refine Kd.C_drewN ?_ _) | (with_reducible refine Kd.C_drew ?_))); (case side2 => exact HC0.out); (case side3 => repeat (first | exact HR1_1.out | exact (Kd.C_below HR1_1.out (zb1 HB GE218)) | (with_reducible refine Kd.C_alloc ?_ _) | (with_reducible refine Kd.C_drewN ?_ _) | (with_reducible refine Kd.C_drew ?_))); (case side4 => exact HC1_1.out); rintro e w' ⟨rfl, ⟨nd, rfl⟩⟩))
   go_ret
   exact ⟨by first | rfl | (simp [errW_none, errW_some] <;> rfl) | (simp [*, errW_none, errW_some] <;> rfl), zb1 HB GE218⟩
  ·replace c6 := Bool.eq_false_iff.mpr c6
   subst c6
   have H1 : (some false) = some r := by rw [if_neg (show ¬ (false = true) by decide)] at H; exact H
   clear H
   have H := H1
   clear H1
   obtain rfl := jM H
   go_enter Try.func26, Try.ntmps26
   go_wp2_with (first | ((with_reducible refine jV (N := 3) rfl ?_); refine jU ?hg (N := 3) ?hd (cs := #[.int .i64 a1_0, .slice A1_1 l1_1.length c1_1]) (t := 28) ?hr ?_; (case hd => rfl); (case hg => rfl); (case hr => first | (go_simp; done) | (go_simp; rfl)); intro gb218 hg w11 hbox hb; have n0_ := jA (jJ (zb0 HB) hb); have n1_ := jA (hbox); have n2_ := jA ((by rw [hg]; exact (jF (zb0 HB)) : w.heap.size ≤ gb218)); have n3_ := jA ((by rw [hg]; exact (jF (zb0 HB)) : w.heap.size ≤ gb218)); clear HB; have HB := n0_; have BK218 := n1_; have GW218 := n2_; have GE218 := n3_; clear n0_ n1_ n2_ n3_; clear hb hbox hg) | ((with_reducible refine jW (f := 60) rfl ?_); refine goesL_ (some 6) rfl rfl Try.func60 zr rfl #[.slice A0 l0.length c0] rfl zm ?_; (with_reducible refine (impl_AreArticles.calls k _ _ l0 true _ ?side1 ?side2 A3.out).mono ?_); (case side1 => exact zs HR0 HB); (case side2 => exact HC0.out); rintro e w12 ⟨rfl, hb⟩; refine ⟨_, rfl, ?_⟩; have n0_ := jA (jO (g := gb218) (o := .cells #[.int .i64 a1_0, .slice A1_1 l1_1.length c1_1] 28 (0, 0)) (zk BK218) hb); have n1_ := jA (jJ (zb1 HB GE218) hb); clear BK218; clear HB; have BK218 := n0_; have HB := n1_; clear n0_ n1_; (try clear hb); (try clear hb2); (try clear hk); (try clear hi); have hcz13_0 : w12.cell? ⟨gb218, 0, none⟩ = some (.int .i64 a1_0) := (jD BK218.out 0).trans rfl; have hcz13_1 : w12.cell? ⟨gb218, 1, none⟩ = some (.slice A1_1 l1_1.length c1_1) := (jD BK218.out 1).trans rfl; have hfz13_0 := jC BK218.out 0; have hfz13_1 := jC BK218.out 1) | (go_at_call 61; (with_reducible refine (impl_within.calls a1_0 0 1000000000 false _ A5.out).mono ?_); rintro e w' ⟨rfl, ⟨nd, rfl⟩⟩))
   go_ret
   exact ⟨by first | rfl | (simp [errW_none, errW_some] <;> rfl) | (simp [*, errW_none, errW_some] <;> rfl), zb1 HB GE218⟩
 ·replace c4 := Bool.eq_false_iff.mpr c4
  subst c4
  have H1 : (some false) = some r := by rw [if_neg (show ¬ (false = true) by decide)] at H; exact H
  clear H
  have H := H1
  clear H1
  obtain rfl := jM H
  go_enter Try.func26, Try.ntmps26
  go_wp2_with (first | ((with_reducible refine jV (N := 3) rfl ?_); refine jU ?hg (N := 3) ?hd (cs := #[.int .i64 a1_0, .slice A1_1 l1_1.length c1_1]) (t := 28) ?hr ?_; (case hd => rfl); (case hg => rfl); (case hr => first | (go_simp; done) | (go_simp; rfl)); intro gb218 hg w14 hbox hb; have n0_ := jA (jJ (zb0 HB) hb); have n1_ := jA (hbox); have n2_ := jA ((by rw [hg]; exact (jF (zb0 HB)) : w.heap.size ≤ gb218)); have n3_ := jA ((by rw [hg]; exact (jF (zb0 HB)) : w.heap.size ≤ gb218)); clear HB; have HB := n0_; have BK218 := n1_; have GW218 := n2_; have GE218 := n3_; clear n0_ n1_ n2_ n3_; clear hb hbox hg) | ((with_reducible refine jW (f := 60) rfl ?_); refine goesL_ (some 6) rfl rfl Try.func60 zr rfl #[.slice A0 l0.length c0] rfl zm ?_; (with_reducible refine (impl_AreArticles.calls k _ _ l0 false _ ?side1 ?side2 A3.out).mono ?_); (case side1 => exact zs HR0 HB); (case side2 => exact HC0.out); rintro e w15 ⟨rfl, hb⟩; refine ⟨_, rfl, ?_⟩; have n0_ := jA (jO (g := gb218) (o := .cells #[.int .i64 a1_0, .slice A1_1 l1_1.length c1_1] 28 (0, 0)) (zk BK218) hb); have n1_ := jA (jJ (zb1 HB GE218) hb); clear BK218; clear HB; have BK218 := n0_; have HB := n1_; clear n0_ n1_; (try clear hb); (try clear hb2); (try clear hk); (try clear hi)))
  go_ret
  exact ⟨by first | rfl | (simp [errW_none, errW_some] <;> rfl) | (simp [*, errW_none, errW_some] <;> rfl), zb1 HB GE218⟩

/-! ### impl_articleOf: function 70 -/
def impl_articleOf.l0 : Nat → ByteArray → List (S65) → Int → Int → Option (Int)
 | 0, _, _, _, _ => none
 | k + 1, x1, x7, x8, x9 => if x9 < x8 then (if 0 ≤ x9 then (if x9 < (x7.length : Int) then (if ((rd_T65 x7 x9).f0).toList = x1.toList then (some x9) else (impl_articleOf.l0 k x1 x7 x8 (wrap64 (x9 + 1)))) else (none)) else (none)) else (some (-1))
def impl_articleOf.f (k : Nat) (l0 : List (S65)) (a1 : ByteArray) : Option (Int) := impl_articleOf.l0 k a1 l0 (l0.length : Int) 0
theorem impl_articleOf.mono_l : ∀ k, (∀ y0 y1 y2 y3, LeO (impl_articleOf.l0 k y0 y1 y2 y3) (impl_articleOf.l0 (k + 1) y0 y1 y2 y3))
 | 0 => fun _ _ _ _ r h => by simp [impl_articleOf.l0] at h
 | k + 1 => by
  have ih0 := impl_articleOf.mono_l k
  ·intro y0 y1 y2 y3
   unfold impl_articleOf.l0
   repeat' first
   | (with_reducible exact ih0 _ _ _ _)
   | (with_reducible exact LeO.refl _)
   | (with_reducible exact LeO.none _)
   | (with_reducible refine LeO.ite ?_ ?_)
   | (with_reducible refine LeO.bind ?_ (fun _ => ?_))
   | exact ih0 _ _ _ _
   | exact LeO.none _
   | refine LeO.ite ?_ ?_
   | refine LeO.bind ?_ (fun _ => ?_)
theorem impl_articleOf.mono : ∀ a0 a1 k, LeO (impl_articleOf.f k a0 a1) (impl_articleOf.f (k + 1) a0 a1) := by
 intro a0 a1 k
 have ih0 := impl_articleOf.mono_l k
 unfold impl_articleOf.f
 repeat' first
   | (with_reducible exact ih0 _ _ _ _)
   | (with_reducible exact LeO.refl _)
   | (with_reducible exact LeO.none _)
   | (with_reducible refine LeO.ite ?_ ?_)
   | (with_reducible refine LeO.bind ?_ (fun _ => ?_))
   | exact ih0 _ _ _ _
   | exact LeO.none _
   | refine LeO.ite ?_ ?_
   | refine LeO.bind ?_ (fun _ => ?_)
set_option maxHeartbeats 8000000 in
set_option maxRecDepth 100000 in
theorem impl_articleOf.calls (k : Nat) (A0 : Option Addr) (c0 : Nat) (l0 : List (S65)) (a1 : ByteArray) (r : Int) (w : World) (hr0 : Kd.C k65 w A0 l0.length l0) (hc0 : l0.length ≤ c0) (h : impl_articleOf.f k l0 a1 = some r) :
  Calls Try.prog 70 #[.slice A0 l0.length c0, .string a1] w fun e w' => e = .returned (.int .i64 r) ∧ Below w.heap.size w w' := by
 have hu65 := Try.underlying65
 have HR0 := jA hr0
 have HC0 := jA hc0
 clear hr0 hc0
 have HB := jA (Below.refl w.heap.size w)
 have H : (impl_articleOf.l0 k a1 l0 (l0.length : Int) 0) = some r := h
 clear h
 have H' := jA H
 clear H
 go_enter Try.func70, Try.ntmps70
 go_wp2
 go_loopg [9] k (fun kq v9 w' => ∃ (x9_1 : Int), v9 = .int .i64 x9_1 ∧ Aside0 (impl_articleOf.l0 kq a1 l0 (l0.length : Int) x9_1 = some r) ∧ Aside0 (kq ≤ k) ∧ Aside0 (Below w.heap.size w w'))
 case atStart => exact ⟨(0), zz, H', ⟨Nat.le_refl _⟩, ⟨zb0 HB⟩⟩
 case round =>
  clear H'
  try clear p2
  obtain ⟨x9_1, rfl, HA, HK1, HB⟩ := hrel
  cases gk with
  | zero => exact absurd HA.out (by simp [impl_articleOf.l0])
  | succ k1 =>
   have H := HA.out
   clear HA
   simp only [impl_articleOf.l0] at H
   by_cases c3 : x9_1 < (l0.length : Int)
   ·rw [if_pos c3] at H
    have c3b0 : decide (x9_1 < (l0.length : Int)) = true := jQ c3
    clear c3
    by_cases c4 : 0 ≤ x9_1
    ·rw [if_pos c4] at H
     have c4b0 : decide (0 ≤ x9_1) = true := jQ c4
     clear c4
     by_cases c5 : x9_1 < (l0.length : Int)
     ·rw [if_pos c5] at H
      have c5b0 : decide (x9_1 < (l0.length : Int)) = true := jQ c5
      clear c5
      by_cases c6 : ((rd_T65 l0 x9_1).f0).toList = a1.toList
      ·rw [if_pos c6] at H
       have c6b0 : (((rd_T65 l0 x9_1).f0).toList == a1.toList) = true := beq_iff_eq.mpr c6
       have c6b1 : (((rd_T65 l0 x9_1).f0).toList != a1.toList) = false := bne_eq_false_iff_eq.mpr c6
       clear c6
       obtain rfl := jM H
       have p222 : 0 ≤ (x9_1 : Int) := jE za
       have q222 : x9_1 < (l0.length : Int) := jE za
       obtain ⟨ad222, e222, hx222_0, hx222_1, hx222_2, hx222_3, hx222_4, hx222_5, hx222_6, hx222_7, hx222_8⟩ := at_T65 HR0.out x9_1 p222 q222
       cases e222
       replace hx222_0 := (HB.out.cell (jB w _ hx222_0)).trans hx222_0
       replace hx222_1 := (HB.out.cell (jB w _ hx222_1)).trans hx222_1
       replace hx222_2 := (HB.out.cell (jB w _ hx222_2)).trans hx222_2
       replace hx222_3 := (HB.out.cell (jB w _ hx222_3)).trans hx222_3
       replace hx222_4 := (HB.out.cell (jB w _ hx222_4)).trans hx222_4
       replace hx222_5 := (HB.out.cell (jB w _ hx222_5)).trans hx222_5
       replace hx222_6 := (HB.out.cell (jB w _ hx222_6)).trans hx222_6
       replace hx222_7 := (HB.out.cell (jB w _ hx222_7)).trans hx222_7
       replace hx222_8 := (HB.out.cell (jB w _ hx222_8)).trans hx222_8
       replace p222 := eq_true p222
       replace q222 := eq_true q222
       go_wp2_with (first | ((with_reducible refine jV (N := 6) rfl ?_); refine jU ?hg (N := 6) ?hd (cs := #[.string (⟨#[]⟩ : ByteArray), .int .i64 0, .int .i64 0, .int .i64 0, .int .i64 0, .int .i64 0, .int .i64 0, .int .i64 0, .int .i64 0]) (t := 65) ?hr ?_; (case hd => rfl); (case hg => rfl); (case hr => first | (go_simp; done) | (go_simp; rfl)); intro gb223 hg w7 hbox hb; have n0_ := jA (jJ (zb0 HB) hb); have n1_ := jA (hbox); have n2_ := jA ((by rw [hg]; exact (jF (zb0 HB)) : w.heap.size ≤ gb223)); have n3_ := jA ((by rw [hg]; exact (jF (zb0 HB)) : w.heap.size ≤ gb223)); clear HB; have HB := n0_; have BK223 := n1_; have GW223 := n2_; have GE223 := n3_; clear n0_ n1_ n2_ n3_; clear hb hbox hg; have hcz8_0 : w7.cell? ⟨gb223, 0, none⟩ = some (.string (⟨#[]⟩ : ByteArray)) := (jD BK223.out 0).trans rfl; have hcz8_1 : w7.cell? ⟨gb223, 1, none⟩ = some (.int .i64 0) := (jD BK223.out 1).trans rfl; have hcz8_2 : w7.cell? ⟨gb223, 2, none⟩ = some (.int .i64 0) := (jD BK223.out 2).trans rfl; have hcz8_3 : w7.cell? ⟨gb223, 3, none⟩ = some (.int .i64 0) := (jD BK223.out 3).trans rfl; have hcz8_4 : w7.cell? ⟨gb223, 4, none⟩ = some (.int .i64 0) := (jD BK223.out 4).trans rfl; have hcz8_5 : w7.cell? ⟨gb223, 5, none⟩ = some (.int .i64 0) := (jD BK223.out 5).trans rfl; have hcz8_6 : w7.cell? ⟨gb223, 6, none⟩ = some (.int .i64 0) := (jD BK223.out 6).trans rfl; have hcz8_7 : w7.cell? ⟨gb223, 7, none⟩ = some (.int .i64 0) := (jD BK223.out 7).trans rfl; have hcz8_8 : w7.cell? ⟨gb223, 8, none⟩ = some (.int .i64 0) := (jD BK223.out 8).trans rfl; have hfz8_0 := jC BK223.out 0; have hfz8_1 := jC BK223.out 1; have hfz8_2 := jC BK223.out 2; have hfz8_3 := jC BK223.out 3; have hfz8_4 := jC BK223.out 4; have hfz8_5 := jC BK223.out 5; have hfz8_6 := jC BK223.out 6; have hfz8_7 := jC BK223.out 7; have hfz8_8 := jC BK223.out 8))
       go_ret
       exact ⟨by first | rfl | (simp [errW_none, errW_some] <;> rfl) | (simp [*, errW_none, errW_some] <;> rfl), zb1 HB GE223⟩
      ·rw [if_neg c6] at H
       have c6b0 : (((rd_T65 l0 x9_1).f0).toList == a1.toList) = false := beq_eq_false_iff_ne.mpr c6
       have c6b1 : (((rd_T65 l0 x9_1).f0).toList != a1.toList) = true := bne_iff_ne.mpr c6
       have H' := jA H
       clear H
       have p222 : 0 ≤ (x9_1 : Int) := jE za
       have q222 : x9_1 < (l0.length : Int) := jE za
       obtain ⟨ad222, e222, hx222_0, hx222_1, hx222_2, hx222_3, hx222_4, hx222_5, hx222_6, hx222_7, hx222_8⟩ := at_T65 HR0.out x9_1 p222 q222
       cases e222
       replace hx222_0 := (HB.out.cell (jB w _ hx222_0)).trans hx222_0
       replace hx222_1 := (HB.out.cell (jB w _ hx222_1)).trans hx222_1
       replace hx222_2 := (HB.out.cell (jB w _ hx222_2)).trans hx222_2
       replace hx222_3 := (HB.out.cell (jB w _ hx222_3)).trans hx222_3
       replace hx222_4 := (HB.out.cell (jB w _ hx222_4)).trans hx222_4
       replace hx222_5 := (HB.out.cell (jB w _ hx222_5)).trans hx222_5
       replace hx222_6 := (HB.out.cell (jB w _ hx222_6)).trans hx222_6
       replace hx222_7 := (HB.out.cell (jB w _ hx222_7)).trans hx222_7
       replace hx222_8 := (HB.out.cell (jB w _ hx222_8)).trans hx222_8
       replace p222 := eq_true p222
       replace q222 := eq_true q222
       go_wp2_with (first | ((with_reducible refine jV (N := 6) rfl ?_); refine jU ?hg (N := 6) ?hd (cs := #[.string (⟨#[]⟩ : ByteArray), .int .i64 0, .int .i64 0, .int .i64 0, .int .i64 0, .int .i64 0, .int .i64 0, .int .i64 0, .int .i64 0]) (t := 65) ?hr ?_; (case hd => rfl); (case hg => rfl); (case hr => first | (go_simp; done) | (go_simp; rfl)); intro gb223 hg w9 hbox hb; have n0_ := jA (jJ (zb0 HB) hb); have n1_ := jA (hbox); have n2_ := jA ((by rw [hg]; exact (jF (zb0 HB)) : w.heap.size ≤ gb223)); have n3_ := jA ((by rw [hg]; exact (jF (zb0 HB)) : w.heap.size ≤ gb223)); clear HB; have HB := n0_; have BK223 := n1_; have GW223 := n2_; have GE223 := n3_; clear n0_ n1_ n2_ n3_; clear hb hbox hg; have hcz10_0 : w9.cell? ⟨gb223, 0, none⟩ = some (.string (⟨#[]⟩ : ByteArray)) := (jD BK223.out 0).trans rfl; have hcz10_1 : w9.cell? ⟨gb223, 1, none⟩ = some (.int .i64 0) := (jD BK223.out 1).trans rfl; have hcz10_2 : w9.cell? ⟨gb223, 2, none⟩ = some (.int .i64 0) := (jD BK223.out 2).trans rfl; have hcz10_3 : w9.cell? ⟨gb223, 3, none⟩ = some (.int .i64 0) := (jD BK223.out 3).trans rfl; have hcz10_4 : w9.cell? ⟨gb223, 4, none⟩ = some (.int .i64 0) := (jD BK223.out 4).trans rfl; have hcz10_5 : w9.cell? ⟨gb223, 5, none⟩ = some (.int .i64 0) := (jD BK223.out 5).trans rfl; have hcz10_6 : w9.cell? ⟨gb223, 6, none⟩ = some (.int .i64 0) := (jD BK223.out 6).trans rfl; have hcz10_7 : w9.cell? ⟨gb223, 7, none⟩ = some (.int .i64 0) := (jD BK223.out 7).trans rfl; have hcz10_8 : w9.cell? ⟨gb223, 8, none⟩ = some (.int .i64 0) := (jD BK223.out 8).trans rfl; have hfz10_0 := jC BK223.out 0; have hfz10_1 := jC BK223.out 1; have hfz10_2 := jC BK223.out 2; have hfz10_3 := jC BK223.out 3; have hfz10_4 := jC BK223.out 4; have hfz10_5 := jC BK223.out 5; have hfz10_6 := jC BK223.out 6; have hfz10_7 := jC BK223.out 7; have hfz10_8 := jC BK223.out 8))
       go_roundg k1
       case measure => have := HK1.out; omega
       case rel => exact ⟨(wrap64 (x9_1 + 1)), zz, H', ⟨by have := HK1.out; omega⟩, ⟨zb1 HB GE223⟩⟩
     ·rw [if_neg c5] at H
      exact absurd H (by simp)
    ·rw [if_neg c4] at H
     exact absurd H (by simp)
   ·rw [if_neg c3] at H
    have c3b0 : decide (x9_1 < (l0.length : Int)) = false := jY c3
    clear c3
    obtain rfl := jM H
    go_wp2
    go_ret
    exact ⟨by first | rfl | (simp [errW_none, errW_some] <;> rfl) | (simp [*, errW_none, errW_some] <;> rfl), zb0 HB⟩

/-! ### impl_netIn: function 64 -/
def impl_netIn.l0 : Nat → Int → List (S65) → Int → Int → Int → List Int → Option (Int)
 | 0, _, _, _, _, _, _ => none
 | k + 1, x5, x8, x9, x10, x225000, x225001 => if x10 < x9 then (if 0 ≤ x10 then (if x10 < (x8.length : Int) then (if x10 < (x225001.length : Int) then (impl_netIn.l0 k (wrap64 (x5 + (wrap64 (((rd_T65 x8 x10).f7) * (rd x225001 x10))))) x8 x9 (wrap64 (x10 + 1)) x225000 x225001) else (none)) else (none)) else (none)) else (some x5)
def impl_netIn.f (k : Nat) (l0 : List (S65)) (a1_0 : Int) (l1_1 : List Int) : Option (Int) := impl_netIn.l0 k 0 l0 (l0.length : Int) 0 a1_0 l1_1
theorem impl_netIn.mono_l : ∀ k, (∀ y0 y1 y2 y3 y4 y5, LeO (impl_netIn.l0 k y0 y1 y2 y3 y4 y5) (impl_netIn.l0 (k + 1) y0 y1 y2 y3 y4 y5))
 | 0 => fun _ _ _ _ _ _ r h => by simp [impl_netIn.l0] at h
 | k + 1 => by
  have ih0 := impl_netIn.mono_l k
  ·intro y0 y1 y2 y3 y4 y5
   unfold impl_netIn.l0
   repeat' first
   | (with_reducible exact ih0 _ _ _ _ _ _)
   | (with_reducible exact LeO.refl _)
   | (with_reducible exact LeO.none _)
   | (with_reducible refine LeO.ite ?_ ?_)
   | (with_reducible refine LeO.bind ?_ (fun _ => ?_))
   | exact ih0 _ _ _ _ _ _
   | exact LeO.none _
   | refine LeO.ite ?_ ?_
   | refine LeO.bind ?_ (fun _ => ?_)
theorem impl_netIn.mono : ∀ a0 a1 a2 k, LeO (impl_netIn.f k a0 a1 a2) (impl_netIn.f (k + 1) a0 a1 a2) := by
 intro a0 a1 a2 k
 have ih0 := impl_netIn.mono_l k
 unfold impl_netIn.f
 repeat' first
   | (with_reducible exact ih0 _ _ _ _ _ _)
   | (with_reducible exact LeO.refl _)
   | (with_reducible exact LeO.none _)
   | (with_reducible refine LeO.ite ?_ ?_)
   | (with_reducible refine LeO.bind ?_ (fun _ => ?_))
   | exact ih0 _ _ _ _ _ _
   | exact LeO.none _
   | refine LeO.ite ?_ ?_
   | refine LeO.bind ?_ (fun _ => ?_)
set_option maxHeartbeats 8000000 in
set_option maxRecDepth 100000 in
theorem impl_netIn.calls (k : Nat) (A0 : Option Addr) (c0 : Nat) (l0 : List (S65)) (a1_0 : Int) (A1_1 : Option Addr) (c1_1 : Nat) (l1_1 : List Int) (r : Int) (w : World) (hr0 : Kd.C k65 w A0 l0.length l0) (hc0 : l0.length ≤ c0) (hr1_1 : Kd.C (Kd.int .i64) w A1_1 l1_1.length l1_1) (hc1_1 : l1_1.length ≤ c1_1) (h : impl_netIn.f k l0 a1_0 l1_1 = some r) :
  Calls Try.prog 64 #[.slice A0 l0.length c0, .agg #[.int .i64 a1_0, .slice A1_1 l1_1.length c1_1]] w fun e w' => e = .returned (.int .i64 r) ∧ Below w.heap.size w w' := by
 have hu28 := Try.underlying28
 have hu65 := Try.underlying65
 have HR0 := jA hr0
 have HC0 := jA hc0
 clear hr0 hc0
 have HR1_1 := jA hr1_1
 have HC1_1 := jA hc1_1
 clear hr1_1 hc1_1
 have HB := jA (Below.refl w.heap.size w)
 have H : (impl_netIn.l0 k 0 l0 (l0.length : Int) 0 a1_0 l1_1) = some r := h
 clear h
 have H' := jA H
 clear H
 go_enter Try.func64, Try.ntmps64
 go_wp2_with (first | ((with_reducible refine jV (N := 3) rfl ?_); refine jU ?hg (N := 3) ?hd (cs := #[.int .i64 a1_0, .slice A1_1 l1_1.length c1_1]) (t := 28) ?hr ?_; (case hd => rfl); (case hg => rfl); (case hr => first | (go_simp; done) | (go_simp; rfl)); intro gb224 hg w3 hbox hb; have n0_ := jA (jJ (zb0 HB) hb); have n1_ := jA (hbox); have n2_ := jA ((by rw [hg]; exact (jF (zb0 HB)) : w.heap.size ≤ gb224)); have n3_ := jA ((by rw [hg]; exact (jF (zb0 HB)) : w.heap.size ≤ gb224)); clear HB; have HB := n0_; have BK224 := n1_; have GW224 := n2_; have GE224 := n3_; clear n0_ n1_ n2_ n3_; clear hb hbox hg))
 repeat (go_quiet (first | ((with_reducible refine jV (N := 3) rfl ?_); refine jU ?hg (N := 3) ?hd (cs := #[.int .i64 a1_0, .slice A1_1 l1_1.length c1_1]) (t := 28) ?hr ?_; (case hd => rfl); (case hg => rfl); (case hr => first | (go_simp; done) | (go_simp; rfl)); intro gb224 hg w3 hbox hb; have n0_ := jA (jJ (zb0 HB) hb); have n1_ := jA (hbox); have n2_ := jA ((by rw [hg]; exact (jF (zb0 HB)) : w.heap.size ≤ gb224)); have n3_ := jA ((by rw [hg]; exact (jF (zb0 HB)) : w.heap.size ≤ gb224)); clear HB; have HB := n0_; have BK224 := n1_; have GW224 := n2_; have GE224 := n3_; clear n0_ n1_ n2_ n3_; clear hb hbox hg)); try go_wp2_with (first | ((with_reducible refine jV (N := 3) rfl ?_); refine jU ?hg (N := 3) ?hd (cs := #[.int .i64 a1_0, .slice A1_1 l1_1.length c1_1]) (t := 28) ?hr ?_; (case hd => rfl); (case hg => rfl); (case hr => first | (go_simp; done) | (go_simp; rfl)); intro gb224 hg w3 hbox hb; have n0_ := jA (jJ (zb0 HB) hb); have n1_ := jA (hbox); have n2_ := jA ((by rw [hg]; exact (jF (zb0 HB)) : w.heap.size ≤ gb224)); have n3_ := jA ((by rw [hg]; exact (jF (zb0 HB)) : w.heap.size ≤ gb224)); clear HB; have HB := n0_; have BK224 := n1_; have GW224 := n2_; have GE224 := n3_; clear n0_ n1_ n2_ n3_; clear hb hbox hg)))
 go_loopg [5, 10] k (fun kq v5 v10 w' => ∃ (x5_1 : Int) (x10_1 : Int), v5 = .int .i64 x5_1 ∧ v10 = .int .i64 x10_1 ∧ Aside0 (impl_netIn.l0 kq x5_1 l0 (l0.length : Int) x10_1 a1_0 l1_1 = some r) ∧ Aside0 (kq ≤ k) ∧ Aside0 (w'.heap[gb224]? = some (.cells #[.int .i64 a1_0, (.slice A1_1 l1_1.length c1_1)] 28 (0, 0))) ∧ Aside0 (Below w.heap.size w w'))
 case atStart => exact ⟨(0), (0), zz, zz, H', ⟨Nat.le_refl _⟩, ⟨by (with_reducible repeat (first | refine jG ?_ _ | refine jI ?_ | refine jH ?_ _)); exact BK224.out⟩, ⟨zb1 HB GE224⟩⟩
 case round =>
  clear H'
  try clear c1
  try clear p2
  obtain ⟨x5_1, x10_1, rfl, rfl, HA, HK1, BK224, HB⟩ := hrel
  cases gk with
  | zero => exact absurd HA.out (by simp [impl_netIn.l0])
  | succ k1 =>
   have H := HA.out
   clear HA
   simp only [impl_netIn.l0] at H
   by_cases c4 : x10_1 < (l0.length : Int)
   ·rw [if_pos c4] at H
    have c4b0 : decide (x10_1 < (l0.length : Int)) = true := jQ c4
    clear c4
    by_cases c5 : 0 ≤ x10_1
    ·rw [if_pos c5] at H
     have c5b0 : decide (0 ≤ x10_1) = true := jQ c5
     clear c5
     by_cases c6 : x10_1 < (l0.length : Int)
     ·rw [if_pos c6] at H
      have c6b0 : decide (x10_1 < (l0.length : Int)) = true := jQ c6
      clear c6
      by_cases c7 : x10_1 < (l1_1.length : Int)
      ·rw [if_pos c7] at H
       have c7b0 : decide (x10_1 < (l1_1.length : Int)) = true := jQ c7
       clear c7
       have H' := jA H
       clear H
       have p225 : 0 ≤ (x10_1 : Int) := jE za
       have q225 : x10_1 < (l0.length : Int) := jE za
       obtain ⟨ad225, e225, hx225_0, hx225_1, hx225_2, hx225_3, hx225_4, hx225_5, hx225_6, hx225_7, hx225_8⟩ := at_T65 HR0.out x10_1 p225 q225
       cases e225
       replace hx225_0 := (HB.out.cell (jB w _ hx225_0)).trans hx225_0
       replace hx225_1 := (HB.out.cell (jB w _ hx225_1)).trans hx225_1
       replace hx225_2 := (HB.out.cell (jB w _ hx225_2)).trans hx225_2
       replace hx225_3 := (HB.out.cell (jB w _ hx225_3)).trans hx225_3
       replace hx225_4 := (HB.out.cell (jB w _ hx225_4)).trans hx225_4
       replace hx225_5 := (HB.out.cell (jB w _ hx225_5)).trans hx225_5
       replace hx225_6 := (HB.out.cell (jB w _ hx225_6)).trans hx225_6
       replace hx225_7 := (HB.out.cell (jB w _ hx225_7)).trans hx225_7
       replace hx225_8 := (HB.out.cell (jB w _ hx225_8)).trans hx225_8
       replace p225 := eq_true p225
       replace q225 := eq_true q225
       go_wp2_with (first | ((with_reducible refine jV (N := 7) rfl ?_); refine jU ?hg (N := 7) ?hd (cs := #[.string (⟨#[]⟩ : ByteArray), .int .i64 0, .int .i64 0, .int .i64 0, .int .i64 0, .int .i64 0, .int .i64 0, .int .i64 0, .int .i64 0]) (t := 65) ?hr ?_; (case hd => rfl); (case hg => rfl); (case hr => first | (go_simp; done) | (go_simp; rfl)); intro gb226 hg w8 hbox hb; have n0_ := jA (jO (g := gb224) (o := .cells #[.int .i64 a1_0, .slice A1_1 l1_1.length c1_1] 28 (0, 0)) (zk BK224) hb); have n1_ := jA (jJ (zb1 HB GE224) hb); have n2_ := jA (hbox); have n3_ := jA ((by rw [hg]; exact (jF (zb1 HB GE224)) : w.heap.size ≤ gb226)); have n4_ := jA ((by rw [hg]; exact (jF (zb1 HB GE224)) : w.heap.size ≤ gb226)); have n5_ := jA ((by rw [hg]; exact jN (blk_lt (g := gb224) (o := .cells #[.int .i64 a1_0, .slice A1_1 l1_1.length c1_1] 28 (0, 0)) (zk BK224)) : gb224 ≠ gb226)); have n6_ := jA n5_.out.symm; clear BK224; clear HB; have BK224 := n0_; have HB := n1_; have BK226 := n2_; have GW226 := n3_; have GE226 := n4_; have NB224_226 := n5_; have NB226_224 := n6_; clear n0_ n1_ n2_ n3_ n4_ n5_ n6_; clear hb hbox hg; have hnb9 := NB226_224.out; have hnc9 := NB224_226.out; have hcz10_0 : w8.cell? ⟨gb226, 0, none⟩ = some (.string (⟨#[]⟩ : ByteArray)) := (jD BK226.out 0).trans rfl; have hcz10_1 : w8.cell? ⟨gb226, 1, none⟩ = some (.int .i64 0) := (jD BK226.out 1).trans rfl; have hcz10_2 : w8.cell? ⟨gb226, 2, none⟩ = some (.int .i64 0) := (jD BK226.out 2).trans rfl; have hcz10_3 : w8.cell? ⟨gb226, 3, none⟩ = some (.int .i64 0) := (jD BK226.out 3).trans rfl; have hcz10_4 : w8.cell? ⟨gb226, 4, none⟩ = some (.int .i64 0) := (jD BK226.out 4).trans rfl; have hcz10_5 : w8.cell? ⟨gb226, 5, none⟩ = some (.int .i64 0) := (jD BK226.out 5).trans rfl; have hcz10_6 : w8.cell? ⟨gb226, 6, none⟩ = some (.int .i64 0) := (jD BK226.out 6).trans rfl; have hcz10_7 : w8.cell? ⟨gb226, 7, none⟩ = some (.int .i64 0) := (jD BK226.out 7).trans rfl; have hcz10_8 : w8.cell? ⟨gb226, 8, none⟩ = some (.int .i64 0) := (jD BK226.out 8).trans rfl; have hfz10_0 := jC BK226.out 0; have hfz10_1 := jC BK226.out 1; have hfz10_2 := jC BK226.out 2; have hfz10_3 := jC BK226.out 3; have hfz10_4 := jC BK226.out 4; have hfz10_5 := jC BK226.out 5; have hfz10_6 := jC BK226.out 6; have hfz10_7 := jC BK226.out 7; have hfz10_8 := jC BK226.out 8; have hcz11_0 : w8.cell? ⟨gb224, 0, none⟩ = some (.int .i64 a1_0) := (jD BK224.out 0).trans rfl; have hcz11_1 : w8.cell? ⟨gb224, 1, none⟩ = some (.slice A1_1 l1_1.length c1_1) := (jD BK224.out 1).trans rfl; have hfz11_0 := jC BK224.out 0; have hfz11_1 := jC BK224.out 1; have p227 : 0 ≤ (x10_1 : Int) := jE za; have q227 : x10_1 < (l1_1.length : Int) := jE za; obtain ⟨ad227, e227, hx227_0⟩ := Kd.at_int HR1_1.out x10_1 p227 q227; cases e227; have hn227_0 : ad227.block ≠ gb226 := jN (jR (by have := jB _ _ hx227_0; first | rwa [jK] at this | exact this) GW226.out); have hn227_1 : ad227.block ≠ gb226 := jN (jR (by have := jB _ _ hx227_0; first | rwa [jK] at this | exact this) GW226.out); have hn227_2 : ad227.block ≠ gb226 := jN (jR (by have := jB _ _ hx227_0; first | rwa [jK] at this | exact this) GW226.out); have hn227_3 : ad227.block ≠ gb226 := jN (jR (by have := jB _ _ hx227_0; first | rwa [jK] at this | exact this) GW226.out); have hn227_4 : ad227.block ≠ gb226 := jN (jR (by have := jB _ _ hx227_0; first | rwa [jK] at this | exact this) GW226.out); have hn227_5 : ad227.block ≠ gb226 := jN (jR (by have := jB _ _ hx227_0; first | rwa [jK] at this | exact this) GW226.out); have hn227_6 : ad227.block ≠ gb226 := jN (jR (by have := jB _ _ hx227_0; first | rwa [jK] at this | exact this) GW226.out); have hn227_7 : ad227.block ≠ gb226 := jN (jR (by have := jB _ _ hx227_0; first | rwa [jK] at this | exact this) GW226.out); have hn227_8 : ad227.block ≠ gb226 := jN (jR (by have := jB _ _ hx227_0; first | rwa [jK] at this | exact this) GW226.out); replace hx227_0 := (HB.out.cell (jB w _ hx227_0)).trans hx227_0; replace hx227_0 := (jX (p := ⟨gb226, 0, none⟩) (by first | (rw [jK]; exact hn227_0) | (show (Addr.add _ _).block ≠ _; rw [jK]; exact hn227_0) | exact hn227_0) (.string ((rd_T65 l0 x10_1).f0))).trans hx227_0; replace hx227_0 := (jX (p := ⟨gb226, 1, none⟩) (by first | (rw [jK]; exact hn227_1) | (show (Addr.add _ _).block ≠ _; rw [jK]; exact hn227_1) | exact hn227_1) (.int .i64 ((rd_T65 l0 x10_1).f1))).trans hx227_0; replace hx227_0 := (jX (p := ⟨gb226, 2, none⟩) (by first | (rw [jK]; exact hn227_2) | (show (Addr.add _ _).block ≠ _; rw [jK]; exact hn227_2) | exact hn227_2) (.int .i64 ((rd_T65 l0 x10_1).f2))).trans hx227_0; replace hx227_0 := (jX (p := ⟨gb226, 3, none⟩) (by first | (rw [jK]; exact hn227_3) | (show (Addr.add _ _).block ≠ _; rw [jK]; exact hn227_3) | exact hn227_3) (.int .i64 ((rd_T65 l0 x10_1).f3))).trans hx227_0; replace hx227_0 := (jX (p := ⟨gb226, 4, none⟩) (by first | (rw [jK]; exact hn227_4) | (show (Addr.add _ _).block ≠ _; rw [jK]; exact hn227_4) | exact hn227_4) (.int .i64 ((rd_T65 l0 x10_1).f4))).trans hx227_0; replace hx227_0 := (jX (p := ⟨gb226, 5, none⟩) (by first | (rw [jK]; exact hn227_5) | (show (Addr.add _ _).block ≠ _; rw [jK]; exact hn227_5) | exact hn227_5) (.int .i64 ((rd_T65 l0 x10_1).f5))).trans hx227_0; replace hx227_0 := (jX (p := ⟨gb226, 6, none⟩) (by first | (rw [jK]; exact hn227_6) | (show (Addr.add _ _).block ≠ _; rw [jK]; exact hn227_6) | exact hn227_6) (.int .i64 ((rd_T65 l0 x10_1).f6))).trans hx227_0; replace hx227_0 := (jX (p := ⟨gb226, 7, none⟩) (by first | (rw [jK]; exact hn227_7) | (show (Addr.add _ _).block ≠ _; rw [jK]; exact hn227_7) | exact hn227_7) (.int .i64 ((rd_T65 l0 x10_1).f7))).trans hx227_0; replace hx227_0 := (jX (p := ⟨gb226, 8, none⟩) (by first | (rw [jK]; exact hn227_8) | (show (Addr.add _ _).block ≠ _; rw [jK]; exact hn227_8) | exact hn227_8) (.int .i64 ((rd_T65 l0 x10_1).f8))).trans hx227_0; clear hn227_0; clear hn227_1; clear hn227_2; clear hn227_3; clear hn227_4; clear hn227_5; clear hn227_6; clear hn227_7; clear hn227_8; replace p227 := eq_true p227; replace q227 := eq_true q227))
       repeat (go_quiet (first | ((with_reducible refine jV (N := 7) rfl ?_); refine jU ?hg (N := 7) ?hd (cs := #[.string (⟨#[]⟩ : ByteArray), .int .i64 0, .int .i64 0, .int .i64 0, .int .i64 0, .int .i64 0, .int .i64 0, .int .i64 0, .int .i64 0]) (t := 65) ?hr ?_; (case hd => rfl); (case hg => rfl); (case hr => first | (go_simp; done) | (go_simp; rfl)); intro gb226 hg w8 hbox hb; have n0_ := jA (jO (g := gb224) (o := .cells #[.int .i64 a1_0, .slice A1_1 l1_1.length c1_1] 28 (0, 0)) (zk BK224) hb); have n1_ := jA (jJ (zb1 HB GE224) hb); have n2_ := jA (hbox); have n3_ := jA ((by rw [hg]; exact (jF (zb1 HB GE224)) : w.heap.size ≤ gb226)); have n4_ := jA ((by rw [hg]; exact (jF (zb1 HB GE224)) : w.heap.size ≤ gb226)); have n5_ := jA ((by rw [hg]; exact jN (blk_lt (g := gb224) (o := .cells #[.int .i64 a1_0, .slice A1_1 l1_1.length c1_1] 28 (0, 0)) (zk BK224)) : gb224 ≠ gb226)); have n6_ := jA n5_.out.symm; clear BK224; clear HB; have BK224 := n0_; have HB := n1_; have BK226 := n2_; have GW226 := n3_; have GE226 := n4_; have NB224_226 := n5_; have NB226_224 := n6_; clear n0_ n1_ n2_ n3_ n4_ n5_ n6_; clear hb hbox hg; have hnb9 := NB226_224.out; have hnc9 := NB224_226.out; have hcz10_0 : w8.cell? ⟨gb226, 0, none⟩ = some (.string (⟨#[]⟩ : ByteArray)) := (jD BK226.out 0).trans rfl; have hcz10_1 : w8.cell? ⟨gb226, 1, none⟩ = some (.int .i64 0) := (jD BK226.out 1).trans rfl; have hcz10_2 : w8.cell? ⟨gb226, 2, none⟩ = some (.int .i64 0) := (jD BK226.out 2).trans rfl; have hcz10_3 : w8.cell? ⟨gb226, 3, none⟩ = some (.int .i64 0) := (jD BK226.out 3).trans rfl; have hcz10_4 : w8.cell? ⟨gb226, 4, none⟩ = some (.int .i64 0) := (jD BK226.out 4).trans rfl; have hcz10_5 : w8.cell? ⟨gb226, 5, none⟩ = some (.int .i64 0) := (jD BK226.out 5).trans rfl; have hcz10_6 : w8.cell? ⟨gb226, 6, none⟩ = some (.int .i64 0) := (jD BK226.out 6).trans rfl; have hcz10_7 : w8.cell? ⟨gb226, 7, none⟩ = some (.int .i64 0) := (jD BK226.out 7).trans rfl; have hcz10_8 : w8.cell? ⟨gb226, 8, none⟩ = some (.int .i64 0) := (jD BK226.out 8).trans rfl; have hfz10_0 := jC BK226.out 0; have hfz10_1 := jC BK226.out 1; have hfz10_2 := jC BK226.out 2; have hfz10_3 := jC BK226.out 3; have hfz10_4 := jC BK226.out 4; have hfz10_5 := jC BK226.out 5; have hfz10_6 := jC BK226.out 6; have hfz10_7 := jC BK226.out 7; have hfz10_8 := jC BK226.out 8; have hcz11_0 : w8.cell? ⟨gb224, 0, none⟩ = some (.int .i64 a1_0) := (jD BK224.out 0).trans rfl; have hcz11_1 : w8.cell? ⟨gb224, 1, none⟩ = some (.slice A1_1 l1_1.length c1_1) := (jD BK224.out 1).trans rfl; have hfz11_0 := jC BK224.out 0; have hfz11_1 := jC BK224.out 1; have p227 : 0 ≤ (x10_1 : Int) := jE za; have q227 : x10_1 < (l1_1.length : Int) := jE za; obtain ⟨ad227, e227, hx227_0⟩ := Kd.at_int HR1_1.out x10_1 p227 q227; cases e227; have hn227_0 : ad227.block ≠ gb226 := jN (jR (by have := jB _ _ hx227_0; first | rwa [jK] at this | exact this) GW226.out); have hn227_1 : ad227.block ≠ gb226 := jN (jR (by have := jB _ _ hx227_0; first | rwa [jK] at this | exact this) GW226.out); have hn227_2 : ad227.block ≠ gb226 := jN (jR (by have := jB _ _ hx227_0; first | rwa [jK] at this | exact this) GW226.out); have hn227_3 : ad227.block ≠ gb226 := jN (jR (by have := jB _ _ hx227_0; first | rwa [jK] at this | exact this) GW226.out); have hn227_4 : ad227.block ≠ gb226 := jN (jR (by have := jB _ _ hx227_0; first | rwa [jK] at this | exact this) GW226.out); have hn227_5 : ad227.block ≠ gb226 := jN (jR (by have := jB _ _ hx227_0; first | rwa [jK] at this | exact this) GW226.out); have hn227_6 : ad227.block ≠ gb226 := jN (jR (by have := jB _ _ hx227_0; first | rwa [jK] at this | exact this) GW226.out); have hn227_7 : ad227.block ≠ gb226 := jN (jR (by have := jB _ _ hx227_0; first | rwa [jK] at this | exact this) GW226.out); have hn227_8 : ad227.block ≠ gb226 := jN (jR (by have := jB _ _ hx227_0; first | rwa [jK] at this | exact this) GW226.out); replace hx227_0 := (HB.out.cell (jB w _ hx227_0)).trans hx227_0; replace hx227_0 := (jX (p := ⟨gb226, 0, none⟩) (by first | (rw [jK]; exact hn227_0) | (show (Addr.add _ _).block ≠ _; rw [jK]; exact hn227_0) | exact hn227_0) (.string ((rd_T65 l0 x10_1).f0))).trans hx227_0; replace hx227_0 := (jX (p := ⟨gb226, 1, none⟩) (by first | (rw [jK]; exact hn227_1) | (show (Addr.add _ _).block ≠ _; rw [jK]; exact hn227_1) | exact hn227_1) (.int .i64 ((rd_T65 l0 x10_1).f1))).trans hx227_0; replace hx227_0 := (jX (p := ⟨gb226, 2, none⟩) (by first | (rw [jK]; exact hn227_2) | (show (Addr.add _ _).block ≠ _; rw [jK]; exact hn227_2) | exact hn227_2) (.int .i64 ((rd_T65 l0 x10_1).f2))).trans hx227_0; replace hx227_0 := (jX (p := ⟨gb226, 3, none⟩) (by first | (rw [jK]; exact hn227_3) | (show (Addr.add _ _).block ≠ _; rw [jK]; exact hn227_3) | exact hn227_3) (.int .i64 ((rd_T65 l0 x10_1).f3))).trans hx227_0; replace hx227_0 := (jX (p := ⟨gb226, 4, none⟩) (by first | (rw [jK]; exact hn227_4) | (show (Addr.add _ _).block ≠ _; rw [jK]; exact hn227_4) | exact hn227_4) (.int .i64 ((rd_T65 l0 x10_1).f4))).trans hx227_0; replace hx227_0 := (jX (p := ⟨gb226, 5, none⟩) (by first | (rw [jK]; exact hn227_5) | (show (Addr.add _ _).block ≠ _; rw [jK]; exact hn227_5) | exact hn227_5) (.int .i64 ((rd_T65 l0 x10_1).f5))).trans hx227_0; replace hx227_0 := (jX (p := ⟨gb226, 6, none⟩) (by first | (rw [jK]; exact hn227_6) | (show (Addr.add _ _).block ≠ _; rw [jK]; exact hn227_6) | exact hn227_6) (.int .i64 ((rd_T65 l0 x10_1).f6))).trans hx227_0; replace hx227_0 := (jX (p := ⟨gb226, 7, none⟩) (by first | (rw [jK]; exact hn227_7) | (show (Addr.add _ _).block ≠ _; rw [jK]; exact hn227_7) | exact hn227_7) (.int .i64 ((rd_T65 l0 x10_1).f7))).trans hx227_0; replace hx227_0 := (jX (p := ⟨gb226, 8, none⟩) (by first | (rw [jK]; exact hn227_8) | (show (Addr.add _ _).block ≠ _; rw [jK]; exact hn227_8) | exact hn227_8) (.int .i64 ((rd_T65 l0 x10_1).f8))).trans hx227_0; clear hn227_0; clear hn227_1; clear hn227_2; clear hn227_3; clear hn227_4; clear hn227_5; clear hn227_6; clear hn227_7; clear hn227_8; replace p227 := eq_true p227; replace q227 := eq_true q227)); try go_wp2_with (first | ((with_reducible refine jV (N := 7) rfl ?_); refine jU ?hg (N := 7) ?hd (cs := #[.string (⟨#[]⟩ : ByteArray), .int .i64 0, .int .i64 0, .int .i64 0, .int .i64 0, .int .i64 0, .int .i64 0, .int .i64 0, .int .i64 0]) (t := 65) ?hr ?_; (case hd => rfl); (case hg => rfl); (case hr => first | (go_simp; done) | (go_simp; rfl)); intro gb226 hg w8 hbox hb; have n0_ := jA (jO (g := gb224) (o := .cells #[.int .i64 a1_0, .slice A1_1 l1_1.length c1_1] 28 (0, 0)) (zk BK224) hb); have n1_ := jA (jJ (zb1 HB GE224) hb); have n2_ := jA (hbox); have n3_ := jA ((by rw [hg]; exact (jF (zb1 HB GE224)) : w.heap.size ≤ gb226)); have n4_ := jA ((by rw [hg]; exact (jF (zb1 HB GE224)) : w.heap.size ≤ gb226)); have n5_ := jA ((by rw [hg]; exact jN (blk_lt (g := gb224) (o := .cells #[.int .i64 a1_0, .slice A1_1 l1_1.length c1_1] 28 (0, 0)) (zk BK224)) : gb224 ≠ gb226)); have n6_ := jA n5_.out.symm; clear BK224; clear HB; have BK224 := n0_; have HB := n1_; have BK226 := n2_; have GW226 := n3_; have GE226 := n4_; have NB224_226 := n5_; have NB226_224 := n6_; clear n0_ n1_ n2_ n3_ n4_ n5_ n6_; clear hb hbox hg; have hnb9 := NB226_224.out; have hnc9 := NB224_226.out; have hcz10_0 : w8.cell? ⟨gb226, 0, none⟩ = some (.string (⟨#[]⟩ : ByteArray)) := (jD BK226.out 0).trans rfl; have hcz10_1 : w8.cell? ⟨gb226, 1, none⟩ = some (.int .i64 0) := (jD BK226.out 1).trans rfl; have hcz10_2 : w8.cell? ⟨gb226, 2, none⟩ = some (.int .i64 0) := (jD BK226.out 2).trans rfl; have hcz10_3 : w8.cell? ⟨gb226, 3, none⟩ = some (.int .i64 0) := (jD BK226.out 3).trans rfl; have hcz10_4 : w8.cell? ⟨gb226, 4, none⟩ = some (.int .i64 0) := (jD BK226.out 4).trans rfl; have hcz10_5 : w8.cell? ⟨gb226, 5, none⟩ = some (.int .i64 0) := (jD BK226.out 5).trans rfl; have hcz10_6 : w8.cell? ⟨gb226, 6, none⟩ = some (.int .i64 0) := (jD BK226.out 6).trans rfl; have hcz10_7 : w8.cell? ⟨gb226, 7, none⟩ = some (.int .i64 0) := (jD BK226.out 7).trans rfl; have hcz10_8 : w8.cell? ⟨gb226, 8, none⟩ = some (.int .i64 0) := (jD BK226.out 8).trans rfl; have hfz10_0 := jC BK226.out 0; have hfz10_1 := jC BK226.out 1; have hfz10_2 := jC BK226.out 2; have hfz10_3 := jC BK226.out 3; have hfz10_4 := jC BK226.out 4; have hfz10_5 := jC BK226.out 5; have hfz10_6 := jC BK226.out 6; have hfz10_7 := jC BK226.out 7; have hfz10_8 := jC BK226.out 8; have hcz11_0 : w8.cell? ⟨gb224, 0, none⟩ = some (.int .i64 a1_0) := (jD BK224.out 0).trans rfl; have hcz11_1 : w8.cell? ⟨gb224, 1, none⟩ = some (.slice A1_1 l1_1.length c1_1) := (jD BK224.out 1).trans rfl; have hfz11_0 := jC BK224.out 0; have hfz11_1 := jC BK224.out 1; have p227 : 0 ≤ (x10_1 : Int) := jE za; have q227 : x10_1 < (l1_1.length : Int) := jE za; obtain ⟨ad227, e227, hx227_0⟩ := Kd.at_int HR1_1.out x10_1 p227 q227; cases e227; have hn227_0 : ad227.block ≠ gb226 := jN (jR (by have := jB _ _ hx227_0; first | rwa [jK] at this | exact this) GW226.out); have hn227_1 : ad227.block ≠ gb226 := jN (jR (by have := jB _ _ hx227_0; first | rwa [jK] at this | exact this) GW226.out); have hn227_2 : ad227.block ≠ gb226 := jN (jR (by have := jB _ _ hx227_0; first | rwa [jK] at this | exact this) GW226.out); have hn227_3 : ad227.block ≠ gb226 := jN (jR (by have := jB _ _ hx227_0; first | rwa [jK] at this | exact this) GW226.out); have hn227_4 : ad227.block ≠ gb226 := jN (jR (by have := jB _ _ hx227_0; first | rwa [jK] at this | exact this) GW226.out); have hn227_5 : ad227.block ≠ gb226 := jN (jR (by have := jB _ _ hx227_0; first | rwa [jK] at this | exact this) GW226.out); have hn227_6 : ad227.block ≠ gb226 := jN (jR (by have := jB _ _ hx227_0; first | rwa [jK] at this | exact this) GW226.out); have hn227_7 : ad227.block ≠ gb226 := jN (jR (by have := jB _ _ hx227_0; first | rwa [jK] at this | exact this) GW226.out); have hn227_8 : ad227.block ≠ gb226 := jN (jR (by have := jB _ _ hx227_0; first | rwa [jK] at this | exact this) GW226.out); replace hx227_0 := (HB.out.cell (jB w _ hx227_0)).trans hx227_0; replace hx227_0 := (jX (p := ⟨gb226, 0, none⟩) (by first | (rw [jK]; exact hn227_0) | (show (Addr.add _ _).block ≠ _; rw [jK]; exact hn227_0) | exact hn227_0) (.string ((rd_T65 l0 x10_1).f0))).trans hx227_0; replace hx227_0 := (jX (p := ⟨gb226, 1, none⟩) (by first | (rw [jK]; exact hn227_1) | (show (Addr.add _ _).block ≠ _; rw [jK]; exact hn227_1) | exact hn227_1) (.int .i64 ((rd_T65 l0 x10_1).f1))).trans hx227_0; replace hx227_0 := (jX (p := ⟨gb226, 2, none⟩) (by first | (rw [jK]; exact hn227_2) | (show (Addr.add _ _).block ≠ _; rw [jK]; exact hn227_2) | exact hn227_2) (.int .i64 ((rd_T65 l0 x10_1).f2))).trans hx227_0; replace hx227_0 := (jX (p := ⟨gb226, 3, none⟩) (by first | (rw [jK]; exact hn227_3) | (show (Addr.add _ _).block ≠ _; rw [jK]; exact hn227_3) | exact hn227_3) (.int .i64 ((rd_T65 l0 x10_1).f3))).trans hx227_0; replace hx227_0 := (jX (p := ⟨gb226, 4, none⟩) (by first | (rw [jK]; exact hn227_4) | (show (Addr.add _ _).block ≠ _; rw [jK]; exact hn227_4) | exact hn227_4) (.int .i64 ((rd_T65 l0 x10_1).f4))).trans hx227_0; replace hx227_0 := (jX (p := ⟨gb226, 5, none⟩) (by first | (rw [jK]; exact hn227_5) | (show (Addr.add _ _).block ≠ _; rw [jK]; exact hn227_5) | exact hn227_5) (.int .i64 ((rd_T65 l0 x10_1).f5))).trans hx227_0; replace hx227_0 := (jX (p := ⟨gb226, 6, none⟩) (by first | (rw [jK]; exact hn227_6) | (show (Addr.add _ _).block ≠ _; rw [jK]; exact hn227_6) | exact hn227_6) (.int .i64 ((rd_T65 l0 x10_1).f6))).trans hx227_0; replace hx227_0 := (jX (p := ⟨gb226, 7, none⟩) (by first | (rw [jK]; exact hn227_7) | (show (Addr.add _ _).block ≠ _; rw [jK]; exact hn227_7) | exact hn227_7) (.int .i64 ((rd_T65 l0 x10_1).f7))).trans hx227_0; replace hx227_0 := (jX (p := ⟨gb226, 8, none⟩) (by first | (rw [jK]; exact hn227_8) | (show (Addr.add _ _).block ≠ _; rw [jK]; exact hn227_8) | exact hn227_8) (.int .i64 ((rd_T65 l0 x10_1).f8))).trans hx227_0; clear hn227_0; clear hn227_1; clear hn227_2; clear hn227_3; clear hn227_4; clear hn227_5; clear hn227_6; clear hn227_7; clear hn227_8; replace p227 := eq_true p227; replace q227 := eq_true q227)))
       go_roundg k1
       case measure => have := HK1.out; omega
       case rel => exact ⟨(wrap64 (x5_1 + (wrap64 (((rd_T65 l0 x10_1).f7) * (rd l1_1 x10_1))))), (wrap64 (x10_1 + 1)), zz, zz, H', ⟨by have := HK1.out; omega⟩, ⟨by (with_reducible repeat (first | refine jG ?_ _ | refine jI ?_ | refine jH ?_ _)); refine ja ?_ NB224_226.out _; (with_reducible repeat (first | refine jG ?_ _ | refine jI ?_ | refine jH ?_ _)); refine ja ?_ NB224_226.out _; (with_reducible repeat (first | refine jG ?_ _ | refine jI ?_ | refine jH ?_ _)); refine ja ?_ NB224_226.out _; (with_reducible repeat (first | refine jG ?_ _ | refine jI ?_ | refine jH ?_ _)); refine ja ?_ NB224_226.out _; (with_reducible repeat (first | refine jG ?_ _ | refine jI ?_ | refine jH ?_ _)); refine ja ?_ NB224_226.out _; (with_reducible repeat (first | refine jG ?_ _ | refine jI ?_ | refine jH ?_ _)); refine ja ?_ NB224_226.out _; (with_reducible repeat (first | refine jG ?_ _ | refine jI ?_ | refine jH ?_ _)); refine ja ?_ NB224_226.out _; (with_reducible repeat (first | refine jG ?_ _ | refine jI ?_ | refine jH ?_ _)); refine ja ?_ NB224_226.out _; (with_reducible repeat (first | refine jG ?_ _ | refine jI ?_ | refine jH ?_ _)); refine ja ?_ NB224_226.out _; (with_reducible repeat (first | refine jG ?_ _ | refine jI ?_ | refine jH ?_ _)); exact BK224.out⟩, ⟨zb2 HB GE224 GE226⟩⟩
      ·rw [if_neg c7] at H
       exact absurd H (by simp)
     ·rw [if_neg c6] at H
      exact absurd H (by simp)
    ·rw [if_neg c5] at H
     exact absurd H (by simp)
   ·rw [if_neg c4] at H
    have c4b0 : decide (x10_1 < (l0.length : Int)) = false := jY c4
    clear c4
    obtain rfl := jM H
    go_wp2
    repeat (go_quiet (fail); try go_wp2)
    go_ret
    exact ⟨by first | rfl | (simp [errW_none, errW_some] <;> rfl) | (simp [*, errW_none, errW_some] <;> rfl), zb1 HB GE224⟩

end Go.Proofs.Ytdgglhfnlljmeaa.PFnExactStorePieces
