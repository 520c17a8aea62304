/- Functions and contracts that FnExactRoomFor reaches (12 of 15). -/
import Derived.Test.YtdgglhfnlljmeaaQFnExactRoomForx10
namespace Go.Proofs.Ytdgglhfnlljmeaa.PFnExactRoomFor
open Go.RowKit Go.Proofs.YtdgglhfnlljmeaaW.PrintWords Go.Proofs.YtdgglhfnlljmeaaW.PrintLast Go.Proofs.YtdgglhfnlljmeaaW.PrintMore
attribute [local go_sem] max2_int min2_int max_two min_two max_three min_three max_four min_four   -- for this text's walks alone
set_option linter.unusedVariables false
set_option linter.unusedSimpArgs false
open Go.Proofs.YtdgglhfnlljmeaaX

/-! ### impl_allWithin: function 85 -/
def impl_allWithin.l0 : Nat → Int → Int → List Int → Int → Int → Option (Bool)
 | 0, _, _, _, _, _ => none
 | k + 1, x1, x2, x9, x10, x11 => if x11 < x10 then (if 0 ≤ x11 then (if x11 < (x9.length : Int) then ((impl_within.f (rd x9 x11) x1 x2).bind fun t263 => (if t263 = true then (impl_allWithin.l0 k x1 x2 x9 x10 (wrap64 (x11 + 1))) else (some false))) else (none)) else (none)) else (some true)
def impl_allWithin.f (k : Nat) (l0 : List Int) (a1 : Int) (a2 : Int) : Option (Bool) := impl_allWithin.l0 k a1 a2 l0 (l0.length : Int) 0
theorem impl_allWithin.mono_l : ∀ k, (∀ y0 y1 y2 y3 y4, LeO (impl_allWithin.l0 k y0 y1 y2 y3 y4) (impl_allWithin.l0 (k + 1) y0 y1 y2 y3 y4))
 | 0 => fun _ _ _ _ _ r h => by simp [impl_allWithin.l0] at h
 | k + 1 => by
  have ih0 := impl_allWithin.mono_l k
  ·intro y0 y1 y2 y3 y4
   unfold impl_allWithin.l0
   repeat' first
   | (with_reducible exact ih0 _ _ _ _ _)
   | (with_reducible exact LeO.refl _)
   | (with_reducible exact LeO.none _)
   | (with_reducible refine LeO.ite ?_ ?_)
   | (with_reducible refine LeO.bind ?_ (fun _ => ?_))
   | exact ih0 _ _ _ _ _
   | exact LeO.none _
   | refine LeO.ite ?_ ?_
   | refine LeO.bind ?_ (fun _ => ?_)
theorem impl_allWithin.mono : ∀ a0 a1 a2 k, LeO (impl_allWithin.f k a0 a1 a2) (impl_allWithin.f (k + 1) a0 a1 a2) := by
 intro a0 a1 a2 k
 have ih0 := impl_allWithin.mono_l k
 unfold impl_allWithin.f
 repeat' first
   | (with_reducible exact ih0 _ _ _ _ _)
   | (with_reducible exact LeO.refl _)
   | (with_reducible exact LeO.none _)
   | (with_reducible refine LeO.ite ?_ ?_)
   | (with_reducible refine LeO.bind ?_ (fun _ => ?_))
   | exact ih0 _ _ _ _ _
   | exact LeO.none _
   | refine LeO.ite ?_ ?_
   | refine LeO.bind ?_ (fun _ => ?_)
set_option maxHeartbeats 8000000 in
set_option maxRecDepth 100000 in
theorem impl_allWithin.calls (k : Nat) (A0 : Option Addr) (c0 : Nat) (l0 : List Int) (a1 : Int) (a2 : Int) (r : Bool) (w : World) (hr0 : Kd.C (Kd.int .i64) w A0 l0.length l0) (hc0 : l0.length ≤ c0) (h : impl_allWithin.f k l0 a1 a2 = some r) :
  Calls Try.prog 85 #[.slice A0 l0.length c0, .int .i64 a1, .int .i64 a2] w fun e w' => e = .returned (.bool r) ∧ Drawn0 w w' := by
 have HR0 := jB hr0
 have HC0 := jB hc0
 clear hr0 hc0
 have H : (impl_allWithin.l0 k a1 a2 l0 (l0.length : Int) 0) = some r := h
 clear h
 have H' := jB H
 clear H
 go_enter Try.func85, Try.ntmps85
 go_wp2
 go_loopg [11] k (fun kq v11 w' => ∃ (x11_1 : Int), v11 = .int .i64 x11_1 ∧ Aside0 (impl_allWithin.l0 kq a1 a2 l0 (l0.length : Int) x11_1 = some r) ∧ Aside0 (kq ≤ k) ∧ Drawn0 w w')
 case atStart => exact ⟨(0), zz, H', ⟨Nat.le_refl _⟩, by repeat (first | exact Drawn0.refl _ | apply Drawn0.step)⟩
 case round =>
  clear H'
  try clear p2
  obtain ⟨x11_1, rfl, HA, HK1, ⟨m1, rfl⟩⟩ := hrel
  cases gk with
  | zero => exact absurd HA.out (by simp [impl_allWithin.l0])
  | succ k1 =>
   have H := HA.out
   clear HA
   simp only [impl_allWithin.l0] at H
   by_cases c4 : x11_1 < (l0.length : Int)
   ·rw [if_pos c4] at H
    have c4b0 : decide (x11_1 < (l0.length : Int)) = true := jR c4
    clear c4
    by_cases c5 : 0 ≤ x11_1
    ·rw [if_pos c5] at H
     have c5b0 : decide (0 ≤ x11_1) = true := jR c5
     clear c5
     by_cases c6 : x11_1 < (l0.length : Int)
     ·rw [if_pos c6] at H
      have c6b0 : decide (x11_1 < (l0.length : Int)) = true := jR c6
      clear c6
      replace H := jP.mp H
      obtain ⟨t263, A70, H⟩ := H
      replace H : (if t263 = true then (impl_allWithin.l0 k1 a1 a2 l0 (l0.length : Int) (wrap64 (x11_1 + 1))) else (some false)) = some r := H
      have A7 := jB A70
      clear A70
      by_cases c8 : t263 = true
      ·subst c8
       have H1 : (impl_allWithin.l0 k1 a1 a2 l0 (l0.length : Int) (wrap64 (x11_1 + 1))) = some r := by rw [if_pos rfl] at H; exact H
       clear H
       have H := H1
       clear H1
       have H' := jB H
       clear H
       have p262 : 0 ≤ (x11_1 : Int) := jE za
       have q262 : x11_1 < (l0.length : Int) := jE za
       obtain ⟨ad262, e262, hx262_0⟩ := Kd.at_int HR0.out x11_1 p262 q262
       cases e262
       replace p262 := eq_true p262
       replace q262 := eq_true q262
       go_wp2_with (first | ((with_reducible refine jW (f := 61) rfl ?_); refine goesL_ (some 18) rfl rfl Try.func61 zr rfl #[.int .i64 (rd l0 x11_1), .int .i64 a1, .int .i64 a2] rfl zm ?_; (with_reducible refine (impl_within.calls (rd l0 x11_1) a1 a2 true _ A7.out).mono ?_); rintro e w' ⟨rfl, ⟨nd, rfl⟩⟩; refine ⟨_, rfl, ?_⟩))
       go_roundg k1
       case measure => have := HK1.out; omega
       case rel => exact ⟨(wrap64 (x11_1 + 1)), zz, H', ⟨by have := HK1.out; omega⟩, by repeat (first | exact Drawn0.refl _ | apply Drawn0.step)⟩
      ·replace c8 := Bool.eq_false_iff.mpr c8
       subst c8
       have H1 : (some false) = some r := by rw [if_neg (show ¬ (false = true) by decide)] at H; exact H
       clear H
       have H := H1
       clear H1
       obtain rfl := jN H
       have p262 : 0 ≤ (x11_1 : Int) := jE za
       have q262 : x11_1 < (l0.length : Int) := jE za
       obtain ⟨ad262, e262, hx262_0⟩ := Kd.at_int HR0.out x11_1 p262 q262
       cases e262
       replace p262 := eq_true p262
       replace q262 := eq_true q262
       go_wp2_with (first | ((with_reducible refine jW (f := 61) rfl ?_); refine goesL_ (some 18) rfl rfl Try.func61 zr rfl #[.int .i64 (rd l0 x11_1), .int .i64 a1, .int .i64 a2] rfl zm ?_; (with_reducible refine (impl_within.calls (rd l0 x11_1) a1 a2 false _ A7.out).mono ?_); rintro e w' ⟨rfl, ⟨nd, rfl⟩⟩; refine ⟨_, rfl, ?_⟩))
       go_ret
       exact ⟨by first | rfl | (simp; done) | (simp [*]; done), by repeat (first | exact Drawn0.refl _ | apply Drawn0.step)⟩
     ·rw [if_neg c6] at H
      exact absurd H (by simp)
    ·rw [if_neg c5] at H
     exact absurd H (by simp)
   ·rw [if_neg c4] at H
    have c4b0 : decide (x11_1 < (l0.length : Int)) = false := jZ c4
    clear c4
    obtain rfl := jN H
    go_wp2
    go_ret
    exact ⟨by first | rfl | (simp; done) | (simp [*]; done), by repeat (first | exact Drawn0.refl _ | apply Drawn0.step)⟩

/-! ### impl_areCounts: function 62 -/
def impl_areCounts.f (k : Nat) (l0 : List (S65)) (l1 : List Int) : Option (Bool) := if (l1.length : Int) = (l0.length : Int) then ((impl_allWithin.f k l1 0 1000).bind fun t264 => (some t264)) else (some false)
theorem impl_areCounts.mono : ∀ a0 a1 k, LeO (impl_areCounts.f k a0 a1) (impl_areCounts.f (k + 1) a0 a1) := by
 intro a0 a1 k
 unfold impl_areCounts.f
 repeat' first
   | (with_reducible exact impl_allWithin.mono _ _ _ _)
   | (with_reducible exact LeO.refl _)
   | (with_reducible exact LeO.none _)
   | (with_reducible refine LeO.ite ?_ ?_)
   | (with_reducible refine LeO.bind ?_ (fun _ => ?_))
   | exact impl_allWithin.mono _ _ _ _
   | exact LeO.none _
   | refine LeO.ite ?_ ?_
   | refine LeO.bind ?_ (fun _ => ?_)
set_option maxHeartbeats 8000000 in
set_option maxRecDepth 100000 in
theorem impl_areCounts.calls (k : Nat) (A0 : Option Addr) (c0 : Nat) (l0 : List (S65)) (A1 : Option Addr) (c1 : Nat) (l1 : List Int) (r : Bool) (w : World) (hr0 : Kd.C k65 w A0 l0.length l0) (hc0 : l0.length ≤ c0) (hr1 : Kd.C (Kd.int .i64) w A1 l1.length l1) (hc1 : l1.length ≤ c1) (h : impl_areCounts.f k l0 l1 = some r) :
  Calls Try.prog 62 #[.slice A0 l0.length c0, .slice A1 l1.length c1] w fun e w' => e = .returned (.bool r) ∧ Drawn0 w w' := by
 have HR0 := jB hr0
 have HC0 := jB hc0
 clear hr0 hc0
 have HR1 := jB hr1
 have HC1 := jB hc1
 clear hr1 hc1
 have H : (if (l1.length : Int) = (l0.length : Int) then ((impl_allWithin.f k l1 0 1000).bind fun t264 => (some t264)) else (some false)) = some r := h
 clear h
 by_cases c3 : (l1.length : Int) = (l0.length : Int)
 ·rw [if_pos c3] at H
  have c3b0 : ((l1.length : Int) == (l0.length : Int)) = true := beq_iff_eq.mpr c3
  have c3b1 : ((l1.length : Int) != (l0.length : Int)) = false := bne_eq_false_iff_eq.mpr c3
  have c3b2 : (l1.length == l0.length) = true := by first | simpa using c3 | (simp at c3 ⊢; omega)
  clear c3
  replace H := jP.mp H
  obtain ⟨t264, A40, H⟩ := H
  replace H : (some t264) = some r := H
  have A4 := jB A40
  clear A40
  obtain rfl := jN H
  go_enter Try.func62, Try.ntmps62
  go_wp2_with (first | (go_at_call 85; (with_reducible refine (impl_allWithin.calls k _ _ l1 0 1000 t264 _ ?side1 ?side2 A4.out).mono ?_); (case side1 => repeat (first | exact HR1.out | (with_reducible refine Kd.C_alloc ?_ _) | (with_reducible refine Kd.C_drewN ?_ _) | (with_reducible refine Kd.C_drew ?_))); (case side2 => exact HC1.out); rintro e w' ⟨rfl, ⟨nd, rfl⟩⟩))
  go_ret
  exact ⟨by first | rfl | (simp; done) | (simp [*]; done), by repeat (first | exact Drawn0.refl _ | apply Drawn0.step)⟩
 ·rw [if_neg c3] at H
  have c3b0 : ((l1.length : Int) == (l0.length : Int)) = false := beq_eq_false_iff_ne.mpr c3
  have c3b1 : ((l1.length : Int) != (l0.length : Int)) = true := bne_iff_ne.mpr c3
  have c3b2 : (l1.length == l0.length) = false := by first | simpa using c3 | (simp at c3 ⊢; omega)
  obtain rfl := jN H
  go_enter Try.func62, Try.ntmps62
  go_wp2
  go_ret
  exact ⟨by first | rfl | (simp; done) | (simp [*]; done), by repeat (first | exact Drawn0.refl _ | apply Drawn0.step)⟩

/-! ### impl_IsMagazine: function 26 -/
def impl_IsMagazine.f (k : Nat) (l0 : List (S65)) (a1_0 : Int) (l1_1 : List Int) : Option (Bool) := (impl_AreArticles.f k l0).bind fun t266 => (if t266 = true then ((impl_within.f a1_0 0 1000000000).bind fun t267 => (if t267 = true then ((impl_areCounts.f k l0 l1_1).bind fun t268 => (some t268)) else (some false))) else (some false))
theorem impl_IsMagazine.mono : ∀ a0 a1 a2 k, LeO (impl_IsMagazine.f k a0 a1 a2) (impl_IsMagazine.f (k + 1) a0 a1 a2) := by
 intro a0 a1 a2 k
 unfold impl_IsMagazine.f
 repeat' first
   | (with_reducible exact impl_AreArticles.mono _ _)
   | (with_reducible exact impl_areCounts.mono _ _ _)
   | (with_reducible exact LeO.refl _)
   | (with_reducible exact LeO.none _)
   | (with_reducible refine LeO.ite ?_ ?_)
   | (with_reducible refine LeO.bind ?_ (fun _ => ?_))
   | exact impl_AreArticles.mono _ _
   | exact impl_areCounts.mono _ _ _
   | exact LeO.none _
   | refine LeO.ite ?_ ?_
   | refine LeO.bind ?_ (fun _ => ?_)
set_option maxHeartbeats 8000000 in
set_option maxRecDepth 100000 in
theorem impl_IsMagazine.calls (k : Nat) (A0 : Option Addr) (c0 : Nat) (l0 : List (S65)) (a1_0 : Int) (A1_1 : Option Addr) (c1_1 : Nat) (l1_1 : List Int) (r : Bool) (w : World) (hr0 : Kd.C k65 w A0 l0.length l0) (hc0 : l0.length ≤ c0) (hr1_1 : Kd.C (Kd.int .i64) w A1_1 l1_1.length l1_1) (hc1_1 : l1_1.length ≤ c1_1) (h : impl_IsMagazine.f k l0 a1_0 l1_1 = some r) :
  Calls Try.prog 26 #[.slice A0 l0.length c0, .agg #[.int .i64 a1_0, .slice A1_1 l1_1.length c1_1]] w fun e w' => e = .returned (.bool r) ∧ Below w.heap.size w w' := by
 have hu28 := Try.underlying28
 have HR0 := jB hr0
 have HC0 := jB hc0
 clear hr0 hc0
 have HR1_1 := jB hr1_1
 have HC1_1 := jB hc1_1
 clear hr1_1 hc1_1
 have HB := jB (Below.refl w.heap.size w)
 have H : ((impl_AreArticles.f k l0).bind fun t266 => (if t266 = true then ((impl_within.f a1_0 0 1000000000).bind fun t267 => (if t267 = true then ((impl_areCounts.f k l0 l1_1).bind fun t268 => (some t268)) else (some false))) else (some false))) = some r := h
 clear h
 replace H := jP.mp H
 obtain ⟨t266, A30, H⟩ := H
 replace H : (if t266 = true then ((impl_within.f a1_0 0 1000000000).bind fun t267 => (if t267 = true then ((impl_areCounts.f k l0 l1_1).bind fun t268 => (some t268)) else (some false))) else (some false)) = some r := H
 have A3 := jB A30
 clear A30
 by_cases c4 : t266 = true
 ·subst c4
  have H1 : ((impl_within.f a1_0 0 1000000000).bind fun t267 => (if t267 = true then ((impl_areCounts.f k l0 l1_1).bind fun t268 => (some t268)) else (some false))) = some r := by rw [if_pos rfl] at H; exact H
  clear H
  have H := H1
  clear H1
  replace H := jP.mp H
  obtain ⟨t267, A50, H⟩ := H
  replace H : (if t267 = true then ((impl_areCounts.f k l0 l1_1).bind fun t268 => (some t268)) else (some false)) = some r := H
  have A5 := jB A50
  clear A50
  by_cases c6 : t267 = true
  ·subst c6
   have H1 : ((impl_areCounts.f k l0 l1_1).bind fun t268 => (some t268)) = some r := by rw [if_pos rfl] at H; exact H
   clear H
   have H := H1
   clear H1
   replace H := jP.mp H
   obtain ⟨t268, A70, H⟩ := H
   replace H : (some t268) = some r := H
   have A7 := jB A70
   clear A70
   obtain rfl := jN H
   go_enter Try.func26, Try.ntmps26
   go_wp2_with (first | ((with_reducible refine jV (N := 3) rfl ?_); refine jU ?hg (N := 3) ?hd (cs := #[.int .i64 a1_0, .slice A1_1 l1_1.length c1_1]) (t := 28) ?hr ?_; (case hd => rfl); (case hg => rfl); (case hr => first | (go_simp; done) | (go_simp; rfl)); intro gb265 hg w8 hbox hb; have n0_ := jB (jK (zb0 HB) hb); have n1_ := jB (hbox); have n2_ := jB ((by rw [hg]; exact (jF (zb0 HB)) : w.heap.size ≤ gb265)); have n3_ := jB ((by rw [hg]; exact (jF (zb0 HB)) : w.heap.size ≤ gb265)); clear HB; have HB := n0_; have BK265 := n1_; have GW265 := n2_; have GE265 := n3_; clear n0_ n1_ n2_ n3_; clear hb hbox hg) | ((with_reducible refine jW (f := 60) rfl ?_); refine goesL_ (some 6) rfl rfl Try.func60 zr rfl #[.slice A0 l0.length c0] rfl zm ?_; (with_reducible refine (impl_AreArticles.calls k _ _ l0 true _ ?side1 ?side2 A3.out).mono ?_); (case side1 => exact zs HR0 HB); (case side2 => exact HC0.out); rintro e w9 ⟨rfl, hb⟩; refine ⟨_, rfl, ?_⟩; have n0_ := jB (jO (g := gb265) (o := .cells #[.int .i64 a1_0, .slice A1_1 l1_1.length c1_1] 28 (0, 0)) (zk BK265) hb); have n1_ := jB (jK (zb1 HB GE265) hb); clear BK265; clear HB; have BK265 := n0_; have HB := n1_; clear n0_ n1_; (try clear hb); (try clear hb2); (try clear hk); (try clear hi); have hcz10_0 : w9.cell? ⟨gb265, 0, none⟩ = some (.int .i64 a1_0) := (jC BK265.out 0).trans rfl; have hcz10_1 : w9.cell? ⟨gb265, 1, none⟩ = some (.slice A1_1 l1_1.length c1_1) := (jC BK265.out 1).trans rfl; have hfz10_0 := jD BK265.out 0; have hfz10_1 := jD BK265.out 1) | (go_at_call 61; (with_reducible refine (impl_within.calls a1_0 0 1000000000 true _ A5.out).mono ?_); rintro e w' ⟨rfl, ⟨nd, rfl⟩⟩) | (go_at_call 62; (with_reducible refine (impl_areCounts.calls k _ _ l0 _ _ l1_1 t268 _ ?side1 ?side2 ?side3 ?side4 A7.out).mono ?_); (case side1 => repeat (first | exact HR0.out | exact (Kd.C_below HR0.out (zb1 HB GE265)) | (with_reducible refine Kd.C_alloc ?_ _) | (with_reducible refine Kd.C_drewN ?_ _) | (with_reducible refine Kd.C_drew ?_))); (case side2 => exact HC0.out); (case side3 => repeat (first | exact HR1_1.out | exact (Kd.C_below HR1_1.out (zb1 HB GE265)) | (with_reducible refine Kd.C_alloc ?_ _) | (with_reducible refine Kd.C_drewN ?_ _) | (with_reducible refine Kd.C_drew ?_))); (case side4 => exact HC1_1.out); rintro e w' ⟨rfl, ⟨nd, rfl⟩⟩))
   go_ret
   exact ⟨by first | rfl | (simp [errW_none, errW_some] <;> rfl) | (simp [*, errW_none, errW_some] <;> rfl), zb1 HB GE265⟩
  ·replace c6 := Bool.eq_false_iff.mpr c6
   subst c6
   have H1 : (some false) = some r := by rw [if_neg (show ¬ (false = true) by decide)] at H; exact H
   clear H
   have H := H1
   clear H1
   obtain rfl := jN H
   go_enter Try.func26, Try.ntmps26
   go_wp2_with (first | ((with_reducible refine jV (N := 3) rfl ?_); refine jU ?hg (N := 3) ?hd (cs := #[.int .i64 a1_0, .slice A1_1 l1_1.length c1_1]) (t := 28) ?hr ?_; (case hd => rfl); (case hg => rfl); (case hr => first | (go_simp; done) | (go_simp; rfl)); intro gb265 hg w11 hbox hb; have n0_ := jB (jK (zb0 HB) hb); have n1_ := jB (hbox); have n2_ := jB ((by rw [hg]; exact (jF (zb0 HB)) : w.heap.size ≤ gb265)); have n3_ := jB ((by rw [hg]; exact (jF (zb0 HB)) : w.heap.size ≤ gb265)); clear HB; have HB := n0_; have BK265 := n1_; have GW265 := n2_; have GE265 := n3_; clear n0_ n1_ n2_ n3_; clear hb hbox hg) | ((with_reducible refine jW (f := 60) rfl ?_); refine goesL_ (some 6) rfl rfl Try.func60 zr rfl #[.slice A0 l0.length c0] rfl zm ?_; (with_reducible refine (impl_AreArticles.calls k _ _ l0 true _ ?side1 ?side2 A3.out).mono ?_); (case side1 => exact zs HR0 HB); (case side2 => exact HC0.out); rintro e w12 ⟨rfl, hb⟩; refine ⟨_, rfl, ?_⟩; have n0_ := jB (jO (g := gb265) (o := .cells #[.int .i64 a1_0, .slice A1_1 l1_1.length c1_1] 28 (0, 0)) (zk BK265) hb); have n1_ := jB (jK (zb1 HB GE265) hb); clear BK265; clear HB; have BK265 := n0_; have HB := n1_; clear n0_ n1_; (try clear hb); (try clear hb2); (try clear hk); (try clear hi); have hcz13_0 : w12.cell? ⟨gb265, 0, none⟩ = some (.int .i64 a1_0) := (jC BK265.out 0).trans rfl; have hcz13_1 : w12.cell? ⟨gb265, 1, none⟩ = some (.slice A1_1 l1_1.length c1_1) := (jC BK265.out 1).trans rfl; have hfz13_0 := jD BK265.out 0; have hfz13_1 := jD BK265.out 1) | (go_at_call 61; (with_reducible refine (impl_within.calls a1_0 0 1000000000 false _ A5.out).mono ?_); rintro e w' ⟨rfl, ⟨nd, rfl⟩⟩))
   go_ret
   exact ⟨by first | rfl | (simp [errW_none, errW_some] <;> rfl) | (simp [*, errW_none, errW_some] <;> rfl), zb1 HB GE265⟩
 ·replace c4 := Bool.eq_false_iff.mpr c4
  subst c4
  have H1 : (some false) = some r := by rw [if_neg (show ¬ (false = true) by decide)] at H; exact H
  clear H
  have H := H1
  clear H1
  obtain rfl := jN H
  go_enter Try.func26, Try.ntmps26
  go_wp2_with (first | ((with_reducible refine jV (N := 3) rfl ?_); refine jU ?hg (N := 3) ?hd (cs := #[.int .i64 a1_0, .slice A1_1 l1_1.length c1_1]) (t := 28) ?hr ?_; (case hd => rfl); (case hg => rfl); (case hr => first | (go_simp; done) | (go_simp; rfl)); intro gb265 hg w14 hbox hb; have n0_ := jB (jK (zb0 HB) hb); have n1_ := jB (hbox); have n2_ := jB ((by rw [hg]; exact (jF (zb0 HB)) : w.heap.size ≤ gb265)); have n3_ := jB ((by rw [hg]; exact (jF (zb0 HB)) : w.heap.size ≤ gb265)); clear HB; have HB := n0_; have BK265 := n1_; have GW265 := n2_; have GE265 := n3_; clear n0_ n1_ n2_ n3_; clear hb hbox hg) | ((with_reducible refine jW (f := 60) rfl ?_); refine goesL_ (some 6) rfl rfl Try.func60 zr rfl #[.slice A0 l0.length c0] rfl zm ?_; (with_reducible refine (impl_AreArticles.calls k _ _ l0 false _ ?side1 ?side2 A3.out).mono ?_); (case side1 => exact zs HR0 HB); (case side2 => exact HC0.out); rintro e w15 ⟨rfl, hb⟩; refine ⟨_, rfl, ?_⟩; have n0_ := jB (jO (g := gb265) (o := .cells #[.int .i64 a1_0, .slice A1_1 l1_1.length c1_1] 28 (0, 0)) (zk BK265) hb); have n1_ := jB (jK (zb1 HB GE265) hb); clear BK265; clear HB; have BK265 := n0_; have HB := n1_; clear n0_ n1_; (try clear hb); (try clear hb2); (try clear hk); (try clear hi)))
  go_ret
  exact ⟨by first | rfl | (simp [errW_none, errW_some] <;> rfl) | (simp [*, errW_none, errW_some] <;> rfl), zb1 HB GE265⟩

/-! ### impl_articleOf: function 70 -/
def impl_articleOf.l0 : Nat → ByteArray → List (S65) → Int → Int → Option (Int)
 | 0, _, _, _, _ => none
 | k + 1, x1, x7, x8, x9 => if x9 < x8 then (if 0 ≤ x9 then (if x9 < (x7.length : Int) then (if ((rd_T65 x7 x9).f0).toList = x1.toList then (some x9) else (impl_articleOf.l0 k x1 x7 x8 (wrap64 (x9 + 1)))) else (none)) else (none)) else (some (-1))
def impl_articleOf.f (k : Nat) (l0 : List (S65)) (a1 : ByteArray) : Option (Int) := impl_articleOf.l0 k a1 l0 (l0.length : Int) 0
theorem impl_articleOf.mono_l : ∀ k, (∀ y0 y1 y2 y3, LeO (impl_articleOf.l0 k y0 y1 y2 y3) (impl_articleOf.l0 (k + 1) y0 y1 y2 y3))
 | 0 => fun _ _ _ _ r h => by simp [impl_articleOf.l0] at h
 | k + 1 => by
  have ih0 := impl_articleOf.mono_l k
  ·intro y0 y1 y2 y3
   unfold impl_articleOf.l0
   repeat' first
   | (with_reducible exact ih0 _ _ _ _)
   | (with_reducible exact LeO.refl _)
   | (with_reducible exact LeO.none _)
   | (with_reducible refine LeO.ite ?_ ?_)
   | (with_reducible refine LeO.bind ?_ (fun _ => ?_))
   | exact ih0 _ _ _ _
   | exact LeO.none _
   | refine LeO.ite ?_ ?_
   | refine LeO.bind ?_ (fun _ => ?_)
theorem impl_articleOf.mono : ∀ a0 a1 k, LeO (impl_articleOf.f k a0 a1) (impl_articleOf.f (k + 1) a0 a1) := by
 intro a0 a1 k
 have ih0 := impl_articleOf.mono_l k
 unfold impl_articleOf.f
 repeat' first
   | (with_reducible exact ih0 _ _ _ _)
   | (with_reducible exact LeO.refl _)
   | (with_reducible exact LeO.none _)
   | (with_reducible refine LeO.ite ?_ ?_)
   | (with_reducible refine LeO.bind ?_ (fun _ => ?_))
   | exact ih0 _ _ _ _
   | exact LeO.none _
   | refine LeO.ite ?_ ?_
   | refine LeO.bind ?_ (fun _ => ?_)
set_option maxHeartbeats 8000000 in
set_option maxRecDepth 100000 in
theorem impl_articleOf.calls (k : Nat) (A0 : Option Addr) (c0 : Nat) (l0 : List (S65)) (a1 : ByteArray) (r : Int) (w : World) (hr0 : Kd.C k65 w A0 l0.length l0) (hc0 : l0.length ≤ c0) (h : impl_articleOf.f k l0 a1 = some r) :
  Calls Try.prog 70 #[.slice A0 l0.length c0, .string a1] w fun e w' => e = .returned (.int .i64 r) ∧ Below w.heap.size w w' := by
 have hu65 := Try.underlying65
 have HR0 := jB hr0
 have HC0 := jB hc0
 clear hr0 hc0
 have HB := jB (Below.refl w.heap.size w)
 have H : (impl_articleOf.l0 k a1 l0 (l0.length : Int) 0) = some r := h
 clear h
 have H' := jB H
 clear H
 go_enter Try.func70, Try.ntmps70
 go_wp2
 go_loopg [9] k (fun kq v9 w' => ∃ (x9_1 : Int), v9 = .int .i64 x9_1 ∧ Aside0 (impl_articleOf.l0 kq a1 l0 (l0.length : Int) x9_1 = some r) ∧ Aside0 (kq ≤ k) ∧ Aside0 (Below w.heap.size w w'))
 case atStart => exact ⟨(0), zz, H', ⟨Nat.le_refl _⟩, ⟨zb0 HB⟩⟩
 case round =>
  clear H'
  try clear p2
  obtain ⟨x9_1, rfl, HA, HK1, HB⟩ := hrel
  cases gk with
  | zero => exact absurd HA.out (by simp [impl_articleOf.l0])
  | succ k1 =>
   have H := HA.out
   clear HA
   simp only [impl_articleOf.l0] at H
   by_cases c3 : x9_1 < (l0.length : Int)
   ·rw [if_pos c3] at H
    have c3b0 : decide (x9_1 < (l0.length : Int)) = true := jR c3
    clear c3
    by_cases c4 : 0 ≤ x9_1
    ·rw [if_pos c4] at H
     have c4b0 : decide (0 ≤ x9_1) = true := jR c4
     clear c4
     by_cases c5 : x9_1 < (l0.length : Int)
     ·rw [if_pos c5] at H
      have c5b0 : decide (x9_1 < (l0.length : Int)) = true := jR c5
      clear c5
      by_cases c6 : ((rd_T65 l0 x9_1).f0).toList = a1.toList
      ·rw [if_pos c6] at H
       have c6b0 : (((rd_T65 l0 x9_1).f0).toList == a1.toList) = true := beq_iff_eq.mpr c6
       have c6b1 : (((rd_T65 l0 x9_1).f0).toList != a1.toList) = false := bne_eq_false_iff_eq.mpr c6
       clear c6
       obtain rfl := jN H
       have p269 : 0 ≤ (x9_1 : Int) := jE za
       have q269 : x9_1 < (l0.length : Int) := jE za
       obtain ⟨ad269, e269, hx269_0, hx269_1, hx269_2, hx269_3, hx269_4, hx269_5, hx269_6, hx269_7, hx269_8⟩ := at_T65 HR0.out x9_1 p269 q269
       cases e269
       replace hx269_0 := (HB.out.cell (jA w _ hx269_0)).trans hx269_0
       replace hx269_1 := (HB.out.cell (jA w _ hx269_1)).trans hx269_1
       replace hx269_2 := (HB.out.cell (jA w _ hx269_2)).trans hx269_2
       replace hx269_3 := (HB.out.cell (jA w _ hx269_3)).trans hx269_3
       replace hx269_4 := (HB.out.cell (jA w _ hx269_4)).trans hx269_4
       replace hx269_5 := (HB.out.cell (jA w _ hx269_5)).trans hx269_5
       replace hx269_6 := (HB.out.cell (jA w _ hx269_6)).trans hx269_6
       replace hx269_7 := (HB.out.cell (jA w _ hx269_7)).trans hx269_7
       replace hx269_8 := (HB.out.cell (jA w _ hx269_8)).trans hx269_8
       replace p269 := eq_true p269
       replace q269 := eq_true q269
       go_wp2_with (first | ((with_reducible refine jV (N := 6) rfl ?_); refine jU ?hg (N := 6) ?hd (cs := #[.string (⟨#[]⟩ : ByteArray), .int .i64 0, .int .i64 0, .int .i64 0, .int .i64 0, .int .i64 0, .int .i64 0, .int .i64 0, .int .i64 0]) (t := 65) ?hr ?_; (case hd => rfl); (case hg => rfl); (case hr => first | (go_simp; done) | (go_simp; rfl)); intro gb270 hg w7 hbox hb; have n0_ := jB (jK (zb0 HB) hb); have n1_ := jB (hbox); have n2_ := jB ((by rw [hg]; exact (jF (zb0 HB)) : w.heap.size ≤ gb270)); have n3_ := jB ((by rw [hg]; exact (jF (zb0 HB)) : w.heap.size ≤ gb270)); clear HB; have HB := n0_; have BK270 := n1_; have GW270 := n2_; have GE270 := n3_; clear n0_ n1_ n2_ n3_; clear hb hbox hg; have hcz8_0 : w7.cell? ⟨gb270, 0, none⟩ = some (.string (⟨#[]⟩ : ByteArray)) := (jC BK270.out 0).trans rfl; have hcz8_1 : w7.cell? ⟨gb270, 1, none⟩ = some (.int .i64 0) := (jC BK270.out 1).trans rfl; have hcz8_2 : w7.cell? ⟨gb270, 2, none⟩ = some (.int .i64 0) := (jC BK270.out 2).trans rfl; have hcz8_3 : w7.cell? ⟨gb270, 3, none⟩ = some (.int .i64 0) := (jC BK270.out 3).trans rfl; have hcz8_4 : w7.cell? ⟨gb270, 4, none⟩ = some (.int .i64 0) := (jC BK270.out 4).trans rfl; have hcz8_5 : w7.cell? ⟨gb270, 5, none⟩ = some (.int .i64 0) := (jC BK270.out 5).trans rfl; have hcz8_6 : w7.cell? ⟨gb270, 6, none⟩ = some (.int .i64 0) := (jC BK270.out 6).trans rfl; have hcz8_7 : w7.cell? ⟨gb270, 7, none⟩ = some (.int .i64 0) := (jC BK270.out 7).trans rfl; have hcz8_8 : w7.cell? ⟨gb270, 8, none⟩ = some (.int .i64 0) := (jC BK270.out 8).trans rfl; have hfz8_0 := jD BK270.out 0; have hfz8_1 := jD BK270.out 1; have hfz8_2 := jD BK270.out 2; have hfz8_3 := jD BK270.out 3; have hfz8_4 := jD BK270.out 4; have hfz8_5 := jD BK270.out 5; have hfz8_6 := jD BK270.out 6; have hfz8_7 := jD BK270.out 7; have hfz8_8 := jD BK270.out 8))
       go_ret
       exact ⟨by first | rfl | (simp [errW_none, errW_some] <;> rfl) | (simp [*, errW_none, errW_some] <;> rfl), zb1 HB GE270⟩
      ·rw [if_neg c6] at H
       have c6b0 : (((rd_T65 l0 x9_1).f0).toList == a1.toList) = false := beq_eq_false_iff_ne.mpr c6
       have c6b1 : (((rd_T65 l0 x9_1).f0).toList != a1.toList) = true := bne_iff_ne.mpr c6
       have H' := jB H
       clear H
       have p269 : 0 ≤ (x9_1 : Int) := jE za
       have q269 : x9_1 < (l0.length : Int) := jE za
       obtain ⟨ad269, e269, hx269_0, hx269_1, hx269_2, hx269_3, hx269_4, hx269_5, hx269_6, hx269_7, hx269_8⟩ := at_T65 HR0.out x9_1 p269 q269
       cases e269
       replace hx269_0 := (HB.out.cell (jA w _ hx269_0)).trans hx269_0
       replace hx269_1 := (HB.out.cell (jA w _ hx269_1)).trans hx269_1
       replace hx269_2 := (HB.out.cell (jA w _ hx269_2)).trans hx269_2
       replace hx269_3 := (HB.out.cell (jA w _ hx269_3)).trans hx269_3
       replace hx269_4 := (HB.out.cell (jA w _ hx269_4)).trans hx269_4
       replace hx269_5 := (HB.out.cell (jA w _ hx269_5)).trans hx269_5
       replace hx269_6 := (HB.out.cell (jA w _ hx269_6)).trans hx269_6
       replace hx269_7 := (HB.out.cell (jA w _ hx269_7)).trans hx269_7
       replace hx269_8 := (HB.out.cell (jA w _ hx269_8)).trans hx269_8
       replace p269 := eq_true p269
       replace q269 := eq_true q269
       go_wp2_with (first | ((with_reducible refine jV (N := 6) rfl ?_); refine jU ?hg (N := 6) ?hd (cs := #[.string (⟨#[]⟩ : ByteArray), .int .i64 0, .int .i64 0, .int .i64 0, .int .i64 0, .int .i64 0, .int .i64 0, .int .i64 0, .int .i64 0]) (t := 65) ?hr ?_; (case hd => rfl); (case hg => rfl); (case hr => first | (go_simp; done) | (go_simp; rfl)); intro gb270 hg w9 hbox hb; have n0_ := jB (jK (zb0 HB) hb); have n1_ := jB (hbox); have n2_ := jB ((by rw [hg]; exact (jF (zb0 HB)) : w.heap.size ≤ gb270)); have n3_ := jB ((by rw [hg]; exact (jF (zb0 HB)) : w.heap.size ≤ gb270)); clear HB; have HB := n0_; have BK270 := n1_; have GW270 := n2_; have GE270 := n3_; clear n0_ n1_ n2_ n3_; clear hb hbox hg; have hcz10_0 : w9.cell? ⟨gb270, 0, none⟩ = some (.string (⟨#[]⟩ : ByteArray)) := (jC BK270.out 0).trans rfl; have hcz10_1 : w9.cell? ⟨gb270, 1, none⟩ = some (.int .i64 0) := (jC BK270.out 1).trans rfl; have hcz10_2 : w9.cell? ⟨gb270, 2, none⟩ = some (.int .i64 0) := (jC BK270.out 2).trans rfl; have hcz10_3 : w9.cell? ⟨gb270, 3, none⟩ = some (.int .i64 0) := (jC BK270.out 3).trans rfl; have hcz10_4 : w9.cell? ⟨gb270, 4, none⟩ = some (.int .i64 0) := (jC BK270.out 4).trans rfl; have hcz10_5 : w9.cell? ⟨gb270, 5, none⟩ = some (.int .i64 0) := (jC BK270.out 5).trans rfl; have hcz10_6 : w9.cell? ⟨gb270, 6, none⟩ = some (.int .i64 0) := (jC BK270.out 6).trans rfl; have hcz10_7 : w9.cell? ⟨gb270, 7, none⟩ = some (.int .i64 0) := (jC BK270.out 7).trans rfl; have hcz10_8 : w9.cell? ⟨gb270, 8, none⟩ = some (.int .i64 0) := (jC BK270.out 8).trans rfl; have hfz10_0 := jD BK270.out 0; have hfz10_1 := jD BK270.out 1; have hfz10_2 := jD BK270.out 2; have hfz10_3 := jD BK270.out 3; have hfz10_4 := jD BK270.out 4; have hfz10_5 := jD BK270.out 5; have hfz10_6 := jD BK270.out 6; have hfz10_7 := jD BK270.out 7; have hfz10_8 := jD BK270.out 8))
       go_roundg k1
       case measure => have := HK1.out; omega
       case rel => exact ⟨(wrap64 (x9_1 + 1)), zz, H', ⟨by have := HK1.out; omega⟩, ⟨zb1 HB GE270⟩⟩
     ·rw [if_neg c5] at H
      exact absurd H (by simp)
    ·rw [if_neg c4] at H
     exact absurd H (by simp)
   ·rw [if_neg c3] at H
    have c3b0 : decide (x9_1 < (l0.length : Int)) = false := jZ c3
    clear c3
    obtain rfl := jN H
    go_wp2
    go_ret
    exact ⟨by first | rfl | (simp [errW_none, errW_some] <;> rfl) | (simp [*, errW_none, errW_some] <;> rfl), zb0 HB⟩

/-! ### impl_netIn: function 64 -/
def impl_netIn.l0 : Nat → Int → List (S65) → Int → Int → Int → List Int → Option (Int)
 | 0, _, _, _, _, _, _ => none
 | k + 1, x5, x8, x9, x10, x272000, x272001 => if x10 < x9 then (if 0 ≤ x10 then (if x10 < (x8.length : Int) then (if x10 < (x272001.length : Int) then (impl_netIn.l0 k (wrap64 (x5 + (wrap64 (((rd_T65 x8 x10).f7) * (rd x272001 x10))))) x8 x9 (wrap64 (x10 + 1)) x272000 x272001) else (none)) else (none)) else (none)) else (some x5)
def impl_netIn.f (k : Nat) (l0 : List (S65)) (a1_0 : Int) (l1_1 : List Int) : Option (Int) := impl_netIn.l0 k 0 l0 (l0.length : Int) 0 a1_0 l1_1
theorem impl_netIn.mono_l : ∀ k, (∀ y0 y1 y2 y3 y4 y5, LeO (impl_netIn.l0 k y0 y1 y2 y3 y4 y5) (impl_netIn.l0 (k + 1) y0 y1 y2 y3 y4 y5))
 | 0 => fun _ _ _ _ _ _ r h => by simp [impl_netIn.l0] at h
 | k + 1 => by
  have ih0 := impl_netIn.mono_l k
  ·intro y0 y1 y2 y3 y4 y5
   unfold impl_netIn.l0
   repeat' first
   | (with_reducible exact ih0 _ _ _ _ _ _)
   | (with_reducible exact LeO.refl _)
   | (with_reducible exact LeO.none _)
   | (with_reducible refine LeO.ite ?_ ?_)
   | (with_reducible refine LeO.bind ?_ (fun _ => ?_))
   | exact ih0 _ _ _ _ _ _
   | exact LeO.none _
   | refine LeO.ite ?_ ?_
   | refine LeO.bind ?_ (fun _ => ?_)
theorem impl_netIn.mono : ∀ a0 a1 a2 k, LeO (impl_netIn.f k a0 a1 a2) (impl_netIn.f (k + 1) a0 a1 a2) := by
 intro a0 a1 a2 k
 have ih0 := impl_netIn.mono_l k
 unfold impl_netIn.f
 repeat' first
   | (with_reducible exact ih0 _ _ _ _ _ _)
   | (with_reducible exact LeO.refl _)
   | (with_reducible exact LeO.none _)
   | (with_reducible refine LeO.ite ?_ ?_)
   | (with_reducible refine LeO.bind ?_ (fun _ => ?_))
   | exact ih0 _ _ _ _ _ _
   | exact LeO.none _
   | refine LeO.ite ?_ ?_
   | refine LeO.bind ?_ (fun _ => ?_)
set_option maxHeartbeats 8000000 in
set_option maxRecDepth 100000 in
theorem impl_netIn.calls (k : Nat) (A0 : Option Addr) (c0 : Nat) (l0 : List (S65)) (a1_0 : Int) (A1_1 : Option Addr) (c1_1 : Nat) (l1_1 : List Int) (r : Int) (w : World) (hr0 : Kd.C k65 w A0 l0.length l0) (hc0 : l0.length ≤ c0) (hr1_1 : Kd.C (Kd.int .i64) w A1_1 l1_1.length l1_1) (hc1_1 : l1_1.length ≤ c1_1) (h : impl_netIn.f k l0 a1_0 l1_1 = some r) :
  Calls Try.prog 64 #[.slice A0 l0.length c0, .agg #[.int .i64 a1_0, .slice A1_1 l1_1.length c1_1]] w fun e w' => e = .returned (.int .i64 r) ∧ Below w.heap.size w w' := by
 have hu28 := Try.underlying28
 have hu65 := Try.underlying65
 have HR0 := jB hr0
 have HC0 := jB hc0
 clear hr0 hc0
 have HR1_1 := jB hr1_1
 have HC1_1 := jB hc1_1
 clear hr1_1 hc1_1
 have HB := jB (Below.refl w.heap.size w)
 have H : (impl_netIn.l0 k 0 l0 (l0.length : Int) 0 a1_0 l1_1) = some r := h
 clear h
 have H' := jB H
 clear H
 go_enter Try.func64, Try.ntmps64
 go_wp2_with (first | ((with_reducible refine jV (N := 3) rfl ?_); refine jU ?hg (N := 3) ?hd (cs := #[.int .i64 a1_0, .slice A1_1 l1_1.length c1_1]) (t := 28) ?hr ?_; (case hd => rfl); (case hg => rfl); (case hr => first | (go_simp; done) | (go_simp; rfl)); intro gb271 hg w3 hbox hb; have n0_ := jB (jK (zb0 HB) hb); have n1_ := jB (hbox); have n2_ := jB ((by rw [hg]; exact (jF (zb0 HB)) : w.heap.size ≤ gb271)); have n3_ := jB ((by rw [hg]; exact (jF (zb0 HB)) : w.heap.size ≤ gb271)); clear HB; have HB := n0_; have BK271 := n1_; have GW271 := n2_; have GE271 := n3_; clear n0_ n1_ n2_ n3_; clear hb hbox hg))
 repeat (go_quiet (first | ((with_reducible refine jV (N := 3) rfl ?_); refine jU ?hg (N := 3) ?hd (cs := #[.int .i64 a1_0, .slice A1_1 l1_1.length c1_1]) (t := 28) ?hr ?_; (case hd => rfl); (case hg => rfl); (case hr => first | (go_simp; done) | (go_simp; rfl)); intro gb271 hg w3 hbox hb; have n0_ := jB (jK (zb0 HB) hb); have n1_ := jB (hbox); have n2_ := jB ((by rw [hg]; exact (jF (zb0 HB)) : w.heap.size ≤ gb271)); have n3_ := jB ((by rw [hg]; exact (jF (zb0 HB)) : w.heap.size ≤ gb271)); clear HB; have HB := n0_; have BK271 := n1_; have GW271 := n2_; have GE271 := n3_; clear n0_ n1_ n2_ n3_; clear hb hbox hg)); try go_wp2_with (first | ((with_reducible refine jV (N := 3) rfl ?_); refine jU ?hg (N := 3) ?hd (cs := #[.int .i64 a1_0, .slice A1_1 l1_1.length c1_1]) (t := 28) ?hr ?_; (case hd => rfl); (case hg => rfl); (case hr => first | (go_simp; done) | (go_simp; rfl)); intro gb271 hg w3 hbox hb; have n0_ := jB (jK (zb0 HB) hb); have n1_ := jB (hbox); have n2_ := jB ((by rw [hg]; exact (jF (zb0 HB)) : w.heap.size ≤ gb271)); have n3_ := jB ((by rw [hg]; exact (jF (zb0 HB)) : w.heap.size ≤ gb271)); clear HB; have HB := n0_; have BK271 := n1_; have GW271 := n2_; have GE271 := n3_; clear n0_ n1_ n2_ n3_; clear hb hbox hg)))
 go_loopg [5, 10] k (fun kq v5 v10 w' => ∃ (x5_1 : Int) (x10_1 : Int), v5 = .int .i64 x5_1 ∧ v10 = .int .i64 x10_1 ∧ Aside0 (impl_netIn.l0 kq x5_1 l0 (l0.length : Int) x10_1 a1_0 l1_1 = some r) ∧ Aside0 (kq ≤ k) ∧ Aside0 (w'.heap[gb271]? = some (.cells #[.int .i64 a1_0, (.slice A1_1 l1_1.length c1_1)] 28 (0, 0))) ∧ Aside0 (Below w.heap.size w w'))
 case atStart => exact ⟨(0), (0), zz, zz, H', ⟨Nat.le_refl _⟩, ⟨by (with_reducible repeat (first | refine jG ?_ _ | refine jI ?_ | refine jH ?_ _)); exact BK271.out⟩, ⟨zb1 HB GE271⟩⟩
 case round =>
  clear H'
  try clear c1
  try clear p2
  obtain ⟨x5_1, x10_1, rfl, rfl, HA, HK1, BK271, HB⟩ := hrel
  cases gk with
  | zero => exact absurd HA.out (by simp [impl_netIn.l0])
  | succ k1 =>
   have H := HA.out
   clear HA
   simp only [impl_netIn.l0] at H
   by_cases c4 : x10_1 < (l0.length : Int)
   ·rw [if_pos c4] at H
    have c4b0 : decide (x10_1 < (l0.length : Int)) = true := jR c4
    clear c4
    by_cases c5 : 0 ≤ x10_1
    ·rw [if_pos c5] at H
     have c5b0 : decide (0 ≤ x10_1) = true := jR c5
     clear c5
     by_cases c6 : x10_1 < (l0.length : Int)
     ·rw [if_pos c6] at H
      have c6b0 : decide (x10_1 < (l0.length : Int)) = true := jR c6
      clear c6
      by_cases c7 : x10_1 < (l1_1.length : Int)
      ·rw [if_pos c7] at H
       have c7b0 : decide (x10_1 < (l1_1.length : Int)) = true := jR c7
       clear c7
       have H' := jB H
       clear H
       have p272 : 0 ≤ (x10_1 : Int) := jE za
       have q272 : x10_1 < (l0.length : Int) := jE za
       obtain ⟨ad272, e272, hx272_0, hx272_1, hx272_2, hx272_3, hx272_4, hx272_5, hx272_6, hx272_7, hx272_8⟩ := at_T65 HR0.out x10_1 p272 q272
       cases e272
       replace hx272_0 := (HB.out.cell (jA w _ hx272_0)).trans hx272_0
       replace hx272_1 := (HB.out.cell (jA w _ hx272_1)).trans hx272_1
       replace hx272_2 := (HB.out.cell (jA w _ hx272_2)).trans hx272_2
       replace hx272_3 := (HB.out.cell (jA w _ hx272_3)).trans hx272_3
       replace hx272_4 := (HB.out.cell (jA w _ hx272_4)).trans hx272_4
       replace hx272_5 := (HB.out.cell (jA w _ hx272_5)).trans hx272_5
       replace hx272_6 := (HB.out.cell (jA w _ hx272_6)).trans hx272_6
       replace hx272_7 := (HB.out.cell (jA w _ hx272_7)).trans hx272_7
       replace hx272_8 := (HB.out.cell (jA w _ hx272_8)).trans hx272_8
       replace p272 := eq_true p272
       replace q272 := eq_true q272
       go_wp2_with (first | ((with_reducible refine jV (N := 7) rfl ?_); refine jU ?hg (N := 7) ?hd (cs := #[.string (⟨#[]⟩ : ByteArray), .int .i64 0, .int .i64 0, .int .i64 0, .int .i64 0, .int .i64 0, .int .i64 0, .int .i64 0, .int .i64 0]) (t := 65) ?hr ?_; (case hd => rfl); (case hg => rfl); (case hr => first | (go_simp; done) | (go_simp; rfl)); intro gb273 hg w8 hbox hb; have n0_ := jB (jO (g := gb271) (o := .cells #[.int .i64 a1_0, .slice A1_1 l1_1.length c1_1] 28 (0, 0)) (zk BK271) hb); have n1_ := jB (jK (zb1 HB GE271) hb); have n2_ := jB (hbox); have n3_ := jB ((by rw [hg]; exact (jF (zb1 HB GE271)) : w.heap.size ≤ gb273)); have n4_ := jB ((by rw [hg]; exact (jF (zb1 HB GE271)) : w.heap.size ≤ gb273)); have n5_ := jB ((by rw [hg]; exact jM (blk_lt (g := gb271) (o := .cells #[.int .i64 a1_0, .slice A1_1 l1_1.length c1_1] 28 (0, 0)) (zk BK271)) : gb271 ≠ gb273)); have n6_ := jB n5_.out.symm; clear BK271; clear HB; have BK271 := n0_; have HB := n1_; have BK273 := n2_; have GW273 := n3_; have GE273 := n4_; have NB271_273 := n5_; have NB273_271 := n6_; clear n0_ n1_ n2_ n3_ n4_ n5_ n6_; clear hb hbox hg; have hnb9 := NB273_271.out; have hnc9 := NB271_273.out; have hcz10_0 : w8.cell? ⟨gb273, 0, none⟩ = some (.string (⟨#[]⟩ : ByteArray)) := (jC BK273.out 0).trans rfl; have hcz10_1 : w8.cell? ⟨gb273, 1, none⟩ = some (.int .i64 0) := (jC BK273.out 1).trans rfl; have hcz10_2 : w8.cell? ⟨gb273, 2, none⟩ = some (.int .i64 0) := (jC BK273.out 2).trans rfl; have hcz10_3 : w8.cell? ⟨gb273, 3, none⟩ = some (.int .i64 0) := (jC BK273.out 3).trans rfl; have hcz10_4 : w8.cell? ⟨gb273, 4, none⟩ = some (.int .i64 0) := (jC BK273.out 4).trans rfl; have hcz10_5 : w8.cell? ⟨gb273, 5, none⟩ = some (.int .i64 0) := (jC BK273.out 5).trans rfl; have hcz10_6 : w8.cell? ⟨gb273, 6, none⟩ = some (.int .i64 0) := (jC BK273.out 6).trans rfl; have hcz10_7 : w8.cell? ⟨gb273, 7, none⟩ = some (.int .i64 0) := (jC BK273.out 7).trans rfl; have hcz10_8 : w8.cell? ⟨gb273, 8, none⟩ = some (.int .i64 0) := (jC BK273.out 8).trans rfl; have hfz10_0 := jD BK273.out 0; have hfz10_1 := jD BK273.out 1; have hfz10_2 := jD BK273.out 2; have hfz10_3 := jD BK273.out 3; have hfz10_4 := jD BK273.out 4; have hfz10_5 := jD BK273.out 5; have hfz10_6 := jD BK273.out 6; have hfz10_7 := jD BK273.out 7; have hfz10_8 := jD BK273.out 8; have hcz11_0 : w8.cell? ⟨gb271, 0, none⟩ = some (.int .i64 a1_0) := (jC BK271.out 0).trans rfl; have hcz11_1 : w8.cell? ⟨gb271, 1, none⟩ = some (.slice A1_1 l1_1.length c1_1) := (jC BK271.out 1).trans rfl; have hfz11_0 := jD BK271.out 0; have hfz11_1 := jD BK271.out 1; have p274 : 0 ≤ (x10_1 : Int) := jE za; have q274 : x10_1 < (l1_1.length : Int) := jE za; obtain ⟨ad274, e274, hx274_0⟩ := Kd.at_int HR1_1.out x10_1 p274 q274; cases e274; have hn274_0 : ad274.block ≠ gb273 := jM (jQ (by have := jA _ _ hx274_0; first | rwa [jJ] at this | exact this) GW273.out); have hn274_1 : ad274.block ≠ gb273 := jM (jQ (by have := jA _ _ hx274_0; first | rwa [jJ] at this | exact this) GW273.out); have hn274_2 : ad274.block ≠ gb273 := jM (jQ (by have := jA _ _ hx274_0; first | rwa [jJ] at this | exact this) GW273.out); have hn274_3 : ad274.block ≠ gb273 := jM (jQ (by have := jA _ _ hx274_0; first | rwa [jJ] at this | exact this) GW273.out); have hn274_4 : ad274.block ≠ gb273 := jM (jQ (by have := jA _ _ hx274_0; first | rwa [jJ] at this | exact this) GW273.out); have hn274_5 : ad274.block ≠ gb273 := jM (jQ (by have := jA _ _ hx274_0; first | rwa [jJ] at this | exact this) GW273.out); have hn274_6 : ad274.block ≠ gb273 := jM (jQ (by have := jA _ _ hx274_0; first | rwa [jJ] at this | exact this) GW273.out); have hn274_7 : ad274.block ≠ gb273 := jM (jQ (by have := jA _ _ hx274_0; first | rwa [jJ] at this | exact this) GW273.out); have hn274_8 : ad274.block ≠ gb273 := jM (jQ (by have := jA _ _ hx274_0; first | rwa [jJ] at this | exact this) GW273.out); replace hx274_0 := (HB.out.cell (jA w _ hx274_0)).trans hx274_0; replace hx274_0 := (jX (p := ⟨gb273, 0, none⟩) (by first | (rw [jJ]; exact hn274_0) | (show (Addr.add _ _).block ≠ _; rw [jJ]; exact hn274_0) | exact hn274_0) (.string ((rd_T65 l0 x10_1).f0))).trans hx274_0; replace hx274_0 := (jX (p := ⟨gb273, 1, none⟩) (by first | (rw [jJ]; exact hn274_1) | (show (Addr.add _ _).block ≠ _; rw [jJ]; exact hn274_1) | exact hn274_1) (.int .i64 ((rd_T65 l0 x10_1).f1))).trans hx274_0; replace hx274_0 := (jX (p := ⟨gb273, 2, none⟩) (by first | (rw [jJ]; exact hn274_2) | (show (Addr.add _ _).block ≠ _; rw [jJ]; exact hn274_2) | exact hn274_2) (.int .i64 ((rd_T65 l0 x10_1).f2))).trans hx274_0; replace hx274_0 := (jX (p := ⟨gb273, 3, none⟩) (by first | (rw [jJ]; exact hn274_3) | (show (Addr.add _ _).block ≠ _; rw [jJ]; exact hn274_3) | exact hn274_3) (.int .i64 ((rd_T65 l0 x10_1).f3))).trans hx274_0; replace hx274_0 := (jX (p := ⟨gb273, 4, none⟩) (by first | (rw [jJ]; exact hn274_4) | (show (Addr.add _ _).block ≠ _; rw [jJ]; exact hn274_4) | exact hn274_4) (.int .i64 ((rd_T65 l0 x10_1).f4))).trans hx274_0; replace hx274_0 := (jX (p := ⟨gb273, 5, none⟩) (by first | (rw [jJ]; exact hn274_5) | (show (Addr.add _ _).block ≠ _; rw [jJ]; exact hn274_5) | exact hn274_5) (.int .i64 ((rd_T65 l0 x10_1).f5))).trans hx274_0; replace hx274_0 := (jX (p := ⟨gb273, 6, none⟩) (by first | (rw [jJ]; exact hn274_6) | (show (Addr.add _ _).block ≠ _; rw [jJ]; exact hn274_6) | exact hn274_6) (.int .i64 ((rd_T65 l0 x10_1).f6))).trans hx274_0; replace hx274_0 := (jX (p := ⟨gb273, 7, none⟩) (by first | (rw [jJ]; exact hn274_7) | (show (Addr.add _ _).block ≠ _; rw [jJ]; exact hn274_7) | exact hn274_7) (.int .i64 ((rd_T65 l0 x10_1).f7))).trans hx274_0; replace hx274_0 := (jX (p := ⟨gb273, 8, none⟩) (by first | (rw [jJ]; exact hn274_8) | (show (Addr.add _ _).block ≠ _; rw [jJ]; exact hn274_8) | exact hn274_8) (.int .i64 ((rd_T65 l0 x10_1).f8))).trans hx274_0; clear hn274_0; clear hn274_1; clear hn274_2; clear hn274_3; clear hn274_4; clear hn274_5; clear hn274_6; clear hn274_7; clear hn274_8; replace p274 := eq_true p274; replace q274 := eq_true q274))
       repeat (go_quiet (first | ((with_reducible refine jV (N := 7) rfl ?_); refine jU ?hg (N := 7) ?hd (cs := #[.string (⟨#[]⟩ : ByteArray), .int .i64 0, .int .i64 0, .int .i64 0, .int .i64 0, .int .i64 0, .int .i64 0, .int .i64 0, .int .i64 0]) (t := 65) ?hr ?_; (case hd => rfl); (case hg => rfl); (case hr => first | (go_simp; done) | (go_simp; rfl)); intro gb273 hg w8 hbox hb; have n0_ := jB (jO (g := gb271) (o := .cells #[.int .i64 a1_0, .slice A1_1 l1_1.length c1_1] 28 (0, 0)) (zk BK271) hb); have n1_ := jB (jK (zb1 HB GE271) hb); have n2_ := jB (hbox); have n3_ := jB ((by rw [hg]; exact (jF (zb1 HB GE271)) : w.heap.size ≤ gb273)); have n4_ := jB ((by rw [hg]; exact (jF (zb1 HB GE271)) : w.heap.size ≤ gb273)); have n5_ := jB ((by rw [hg]; exact jM (blk_lt (g := gb271) (o := .cells #[.int .i64 a1_0, .slice A1_1 l1_1.length c1_1] 28 (0, 0)) (zk BK271)) : gb271 ≠ gb273)); have n6_ := jB n5_.out.symm; clear BK271; clear HB; have BK271 := n0_; have HB := n1_; have BK273 := n2_; have GW273 := n3_; have GE273 := n4_; have NB271_273 := n5_; have NB273_271 := n6_; clear n0_ n1_ n2_ n3_ n4_ n5_ n6_; clear hb hbox hg; have hnb9 := NB273_271.out; have hnc9 := NB271_273.out; have hcz10_0 : w8.cell? ⟨gb273, 0, none⟩ = some (.string (⟨#[]⟩ : ByteArray)) := (jC BK273.out 0).trans rfl; have hcz10_1 : w8.cell? ⟨gb273, 1, none⟩ = some (.int .i64 0) := (jC BK273.out 1).trans rfl; have hcz10_2 : w8.cell? ⟨gb273, 2, none⟩ = some (.int .i64 0) := (jC BK273.out 2).trans rfl; have hcz10_3 : w8.cell? ⟨gb273, 3, none⟩ = some (.int .i64 0) := (jC BK273.out 3).trans rfl; have hcz10_4 : w8.cell? ⟨gb273, 4, none⟩ = some (.int .i64 0) := (jC BK273.out 4).trans rfl; have hcz10_5 : w8.cell? ⟨gb273, 5, none⟩ = some (.int .i64 0) := (jC BK273.out 5).trans rfl; have hcz10_6 : w8.cell? ⟨gb273, 6, none⟩ = some (.int .i64 0) := (jC BK273.out 6).trans rfl; have hcz10_7 : w8.cell? ⟨gb273, 7, none⟩ = some (.int .i64 0) := (jC BK273.out 7).trans rfl; have hcz10_8 : w8.cell? ⟨gb273, 8, none⟩ = some (.int .i64 0) := (jC BK273.out 8).trans rfl; have hfz10_0 := jD BK273.out 0; have hfz10_1 := jD BK273.out 1; have hfz10_2 := jD BK273.out 2; have hfz10_3 := jD BK273.out 3; have hfz10_4 := jD BK273.out 4; have hfz10_5 := jD BK273.out 5; have hfz10_6 := jD BK273.out 6; have hfz10_7 := jD BK273.out 7; have hfz10_8 := jD BK273.out 8; have hcz11_0 : w8.cell? ⟨gb271, 0, none⟩ = some (.int .i64 a1_0) := (jC BK271.out 0).trans rfl; have hcz11_1 : w8.cell? ⟨gb271, 1, none⟩ = some (.slice A1_1 l1_1.length c1_1) := (jC BK271.out 1).trans rfl; have hfz11_0 := jD BK271.out 0; have hfz11_1 := jD BK271.out 1; have p274 : 0 ≤ (x10_1 : Int) := jE za; have q274 : x10_1 < (l1_1.length : Int) := jE za; obtain ⟨ad274, e274, hx274_0⟩ := Kd.at_int HR1_1.out x10_1 p274 q274; cases e274; have hn274_0 : ad274.block ≠ gb273 := jM (jQ (by have := jA _ _ hx274_0; first | rwa [jJ] at this | exact this) GW273.out); have hn274_1 : ad274.block ≠ gb273 := jM (jQ (by have := jA _ _ hx274_0; first | rwa [jJ] at this | exact this) GW273.out); have hn274_2 : ad274.block ≠ gb273 := jM (jQ (by have := jA _ _ hx274_0; first | rwa [jJ] at this | exact this) GW273.out); have hn274_3 : ad274.block ≠ gb273 := jM (jQ (by have := jA _ _ hx274_0; first | rwa [jJ] at this | exact this) GW273.out); have hn274_4 : ad274.block ≠ gb273 := jM (jQ (by have := jA _ _ hx274_0; first | rwa [jJ] at this | exact this) GW273.out); have hn274_5 : ad274.block ≠ gb273 := jM (jQ (by have := jA _ _ hx274_0; first | rwa [jJ] at this | exact this) GW273.out); have hn274_6 : ad274.block ≠ gb273 := jM (jQ (by have := jA _ _ hx274_0; first | rwa [jJ] at this | exact this) GW273.out); have hn274_7 : ad274.block ≠ gb273 := jM (jQ (by have := jA _ _ hx274_0; first | rwa [jJ] at this | exact this) GW273.out); have hn274_8 : ad274.block ≠ gb273 := jM (jQ (by have := jA _ _ hx274_0; first | rwa [jJ] at this | exact this) GW273.out); replace hx274_0 := (HB.out.cell (jA w _ hx274_0)).trans hx274_0; replace hx274_0 := (jX (p := ⟨gb273, 0, none⟩) (by first | (rw [jJ]; exact hn274_0) | (show (Addr.add _ _).block ≠ _; rw [jJ]; exact hn274_0) | exact hn274_0) (.string ((rd_T65 l0 x10_1).f0))).trans hx274_0; replace hx274_0 := (jX (p := ⟨gb273, 1, none⟩) (by first | (rw [jJ]; exact hn274_1) | (show (Addr.add _ _).block ≠ _; rw [jJ]; exact hn274_1) | exact hn274_1) (.int .i64 ((rd_T65 l0 x10_1).f1))).trans hx274_0; replace hx274_0 := (jX (p := ⟨gb273, 2, none⟩) (by first | (rw [jJ]; exact hn274_2) | (show (Addr.add _ _).block ≠ _; rw [jJ]; exact hn274_2) | exact hn274_2) (.int .i64 ((rd_T65 l0 x10_1).f2))).trans hx274_0; replace hx274_0 := (jX (p := ⟨gb273, 3, none⟩) (by first | (rw [jJ]; exact hn274_3) | (show (Addr.add _ _).block ≠ _; rw [jJ]; exact hn274_3) | exact hn274_3) (.int .i64 ((rd_T65 l0 x10_1).f3))).trans hx274_0; replace hx274_0 := (jX (p := ⟨gb273, 4, none⟩) (by first | (rw [jJ]; exact hn274_4) | (show (Addr.add _ _).block ≠ _; rw [jJ]; exact hn274_4) | exact hn274_4) (.int .i64 ((rd_T65 l0 x10_1).f4))).trans hx274_0; replace hx274_0 := (jX (p := ⟨gb273, 5, none⟩) (by first | (rw [jJ]; exact hn274_5) | (show (Addr.add _ _).block ≠ _; rw [jJ]; exact hn274_5) | exact hn274_5) (.int .i64 ((rd_T65 l0 x10_1).f5))).trans hx274_0; replace hx274_0 := (jX (p := ⟨gb273, 6, none⟩) (by first | (rw [jJ]; exact hn274_6) | (show (Addr.add _ _).block ≠ _; rw [jJ]; exact hn274_6) | exact hn274_6) (.int .i64 ((rd_T65 l0 x10_1).f6))).trans hx274_0; replace hx274_0 := (jX (p := ⟨gb273, 7, none⟩) (by first | (rw [jJ]; exact hn274_7) | (show (Addr.add _ _).block ≠ _; rw [jJ]; exact hn274_7) | exact hn274_7) (.int .i64 ((rd_T65 l0 x10_1).f7))).trans hx274_0; replace hx274_0 := (jX (p := ⟨gb273, 8, none⟩) (by first | (rw [jJ]; exact hn274_8) | (show (Addr.add _ _).block ≠ _; rw [jJ]; exact hn274_8) | exact hn274_8) (.int .i64 ((rd_T65 l0 x10_1).f8))).trans hx274_0; clear hn274_0; clear hn274_1; clear hn274_2; clear hn274_3; clear hn274_4; clear hn274_5; clear hn274_6; clear hn274_7; clear hn274_8; replace p274 := eq_true p274; replace q274 := eq_true q274)); try go_wp2_with (first | ((with_reducible refine jV (N := 7) rfl ?_); refine jU ?hg (N := 7) ?hd (cs := #[.string (⟨#[]⟩ : ByteArray), .int .i64 0, .int .i64 0, .int .i64 0, .int .i64 0, .int .i64 0, .int .i64 0, .int .i64 0, .int .i64 0]) (t := 65) ?hr ?_; (case hd => rfl); (case hg => rfl); (case hr => first | (go_simp; done) | (go_simp; rfl)); intro gb273 hg w8 hbox hb; have n0_ := jB (jO (g := gb271) (o := .cells #[.int .i64 a1_0, .slice A1_1 l1_1.length c1_1] 28 (0, 0)) (zk BK271) hb); have n1_ := jB (jK (zb1 HB GE271) hb); have n2_ := jB (hbox); have n3_ := jB ((by rw [hg]; exact (jF (zb1 HB GE271)) : w.heap.size ≤ gb273)); have n4_ := jB ((by rw [hg]; exact (jF (zb1 HB GE271)) : w.heap.size ≤ gb273)); have n5_ := jB ((by rw [hg]; exact jM (blk_lt (g := gb271) (o := .cells #[.int .i64 a1_0, .slice A1_1 l1_1.length c1_1] 28 (0, 0)) (zk BK271)) : gb271 ≠ gb273)); have n6_ := jB n5_.out.symm; clear BK271; clear HB; have BK271 := n0_; have HB := n1_; have BK273 := n2_; have GW273 := n3_; have GE273 := n4_; have NB271_273 := n5_; have NB273_271 := n6_; clear n0_ n1_ n2_ n3_ n4_ n5_ n6_; clear hb hbox hg; have hnb9 := NB273_271.out; have hnc9 := NB271_273.out; have hcz10_0 : w8.cell? ⟨gb273, 0, none⟩ = some (.string (⟨#[]⟩ : ByteArray)) := (jC BK273.out 0).trans rfl; have hcz10_1 : w8.cell? ⟨gb273, 1, none⟩ = some (.int .i64 0) := (jC BK273.out 1).trans rfl; have hcz10_2 : w8.cell? ⟨gb273, 2, none⟩ = some (.int .i64 0) := (jC BK273.out 2).trans rfl; have hcz10_3 : w8.cell? ⟨gb273, 3, none⟩ = some (.int .i64 0) := (jC BK273.out 3).trans rfl; have hcz10_4 : w8.cell? ⟨gb273, 4, none⟩ = some (.int .i64 0) := (jC BK273.out 4).trans rfl; have hcz10_5 : w8.cell? ⟨gb273, 5, none⟩ = some (.int .i64 0) := (jC BK273.out 5).trans rfl; have hcz10_6 : w8.cell? ⟨gb273, 6, none⟩ = some (.int .i64 0) := (jC BK273.out 6).trans rfl; have hcz10_7 : w8.cell? ⟨gb273, 7, none⟩ = some (.int .i64 0) := (jC BK273.out 7).trans rfl; have hcz10_8 : w8.cell? ⟨gb273, 8, none⟩ = some (.int .i64 0) := (jC BK273.out 8).trans rfl; have hfz10_0 := jD BK273.out 0; have hfz10_1 := jD BK273.out 1; have hfz10_2 := jD BK273.out 2; have hfz10_3 := jD BK273.out 3; have hfz10_4 := jD BK273.out 4; have hfz10_5 := jD BK273.out 5; have hfz10_6 := jD BK273.out 6; have hfz10_7 := jD BK273.out 7; have hfz10_8 := jD BK273.out 8; have hcz11_0 : w8.cell? ⟨gb271, 0, none⟩ = some (.int .i64 a1_0) := (jC BK271.out 0).trans rfl; have hcz11_1 : w8.cell? ⟨gb271, 1, none⟩ = some (.slice A1_1 l1_1.length c1_1) := (jC BK271.out 1).trans rfl; have hfz11_0 := jD BK271.out 0; have hfz11_1 := jD BK271.out 1; have p274 : 0 ≤ (x10_1 : Int) := jE za; have q274 : x10_1 < (l1_1.length : Int) := jE za; obtain ⟨ad274, e274, hx274_0⟩ := Kd.at_int HR1_1.out x10_1 p274 q274; cases e274; have hn274_0 : ad274.block ≠ gb273 := jM (jQ (by have := jA _ _ hx274_0; first | rwa [jJ] at this | exact this) GW273.out); have hn274_1 : ad274.block ≠ gb273 := jM (jQ (by have := jA _ _ hx274_0; first | rwa [jJ] at this | exact this) GW273.out); have hn274_2 : ad274.block ≠ gb273 := jM (jQ (by have := jA _ _ hx274_0; first | rwa [jJ] at this | exact this) GW273.out); have hn274_3 : ad274.block ≠ gb273 := jM (jQ (by have := jA _ _ hx274_0; first | rwa [jJ] at this | exact this) GW273.out); have hn274_4 : ad274.block ≠ gb273 := jM (jQ (by have := jA _ _ hx274_0; first | rwa [jJ] at this | exact this) GW273.out); have hn274_5 : ad274.block ≠ gb273 := jM (jQ (by have := jA _ _ hx274_0; first | rwa [jJ] at this | exact this) GW273.out); have hn274_6 : ad274.block ≠ gb273 := jM (jQ (by have := jA _ _ hx274_0; first | rwa [jJ] at this | exact this) GW273.out); have hn274_7 : ad274.block ≠ gb273 := jM (jQ (by have := jA _ _ hx274_0; first | rwa [jJ] at this | exact this) GW273.out); have hn274_8 : ad274.block ≠ gb273 := jM (jQ (by have := jA _ _ hx274_0; first | rwa [jJ] at this | exact this) GW273.out); replace hx274_0 := (HB.out.cell (jA w _ hx274_0)).trans hx274_0; replace hx274_0 := (jX (p := ⟨gb273, 0, none⟩) (by first | (rw [jJ]; exact hn274_0) | (show (Addr.add _ _).block ≠ _; rw [jJ]; exact hn274_0) | exact hn274_0) (.string ((rd_T65 l0 x10_1).f0))).trans hx274_0; replace hx274_0 := (jX (p := ⟨gb273, 1, none⟩) (by first | (rw [jJ]; exact hn274_1) | (show (Addr.add _ _).block ≠ _; rw [jJ]; exact hn274_1) | exact hn274_1) (.int .i64 ((rd_T65 l0 x10_1).f1))).trans hx274_0; replace hx274_0 := (jX (p := ⟨gb273, 2, none⟩) (by first | (rw [jJ]; exact hn274_2) | (show (Addr.add _ _).block ≠ _; rw [jJ]; exact hn274_2) | exact hn274_2) (.int .i64 ((rd_T65 l0 x10_1).f2))).trans hx274_0; replace hx274_0 := (jX (p := ⟨gb273, 3, none⟩) (by first | (rw [jJ]; exact hn274_3) | (show (Addr.add _ _).block ≠ _; rw [jJ]; exact hn274_3) | exact hn274_3) (.int .i64 ((rd_T65 l0 x10_1).f3))).trans hx274_0; replace hx274_0 := (jX (p := ⟨gb273, 4, none⟩) (by first | (rw [jJ]; exact hn274_4) | (show (Addr.add _ _).block ≠ _; rw [jJ]; exact hn274_4) | exact hn274_4) (.int .i64 ((rd_T65 l0 x10_1).f4))).trans hx274_0; replace hx274_0 := (jX (p := ⟨gb273, 5, none⟩) (by first | (rw [jJ]; exact hn274_5) | (show (Addr.add _ _).block ≠ _; rw [jJ]; exact hn274_5) | exact hn274_5) (.int .i64 ((rd_T65 l0 x10_1).f5))).trans hx274_0; replace hx274_0 := (jX (p := ⟨gb273, 6, none⟩) (by first | (rw [jJ]; exact hn274_6) | (show (Addr.add _ _).block ≠ _; rw [jJ]; exact hn274_6) | exact hn274_6) (.int .i64 ((rd_T65 l0 x10_1).f6))).trans hx274_0; replace hx274_0 := (jX (p := ⟨gb273, 7, none⟩) (by first | (rw [jJ]; exact hn274_7) | (show (Addr.add _ _).block ≠ _; rw [jJ]; exact hn274_7) | exact hn274_7) (.int .i64 ((rd_T65 l0 x10_1).f7))).trans hx274_0; replace hx274_0 := (jX (p := ⟨gb273, 8, none⟩) (by first | (rw [jJ]; exact hn274_8) | (show (Addr.add _ _).block ≠ _; rw [jJ]; exact hn274_8) | exact hn274_8) (.int .i64 ((rd_T65 l0 x10_1).f8))).trans hx274_0; clear hn274_0; clear hn274_1; clear hn274_2; clear hn274_3; clear hn274_4; clear hn274_5; clear hn274_6; clear hn274_7; clear hn274_8; replace p274 := eq_true p274; replace q274 := eq_true q274)))
       go_roundg k1
       case measure => have := HK1.out; omega
       case rel => exact ⟨(wrap64 (x5_1 + (wrap64 (((rd_T65 l0 x10_1).f7) * (rd l1_1 x10_1))))), (wrap64 (x10_1 + 1)), zz, zz, H', ⟨by have := HK1.out; omega⟩, ⟨by (with_reducible repeat (first | refine jG ?_ _ | refine jI ?_ | refine jH ?_ _)); refine jY ?_ NB271_273.out _; (with_reducible repeat (first | refine jG ?_ _ | refine jI ?_ | refine jH ?_ _)); refine jY ?_ NB271_273.out _; (with_reducible repeat (first | refine jG ?_ _ | refine jI ?_ | refine jH ?_ _)); refine jY ?_ NB271_273.out _; (with_reducible repeat (first | refine jG ?_ _ | refine jI ?_ | refine jH ?_ _)); refine jY ?_ NB271_273.out _; (with_reducible repeat (first | refine jG ?_ _ | refine jI ?_ | refine jH ?_ _)); refine jY ?_ NB271_273.out _; (with_reducible repeat (first | refine jG ?_ _ | refine jI ?_ | refine jH ?_ _)); refine jY ?_ NB271_273.out _; (with_reducible repeat (first | refine jG ?_ _ | refine jI ?_ | refine jH ?_ _)); refine jY ?_ NB271_273.out _; (with_reducible repeat (first | refine jG ?_ _ | refine jI ?_ | refine jH ?_ _)); refine jY ?_ NB271_273.out _; (with_reducible repeat (first | refine jG ?_ _ | refine jI ?_ | refine jH ?_ _)); refine jY ?_ NB271_273.out _; (with_reducible repeat (first | refine jG ?_ _ | refine jI ?_ | refine jH ?_ _)); exact BK271.out⟩, ⟨zb2 HB GE271 GE273⟩⟩
      ·rw [if_neg c7] at H
       exact absurd H (by simp)
     ·rw [if_neg c6] at H
      exact absurd H (by simp)
    ·rw [if_neg c5] at H
     exact absurd H (by simp)
   ·rw [if_neg c4] at H
    have c4b0 : decide (x10_1 < (l0.length : Int)) = false := jZ c4
    clear c4
    obtain rfl := jN H
    go_wp2
    repeat (go_quiet (fail); try go_wp2)
    go_ret
    exact ⟨by first | rfl | (simp [errW_none, errW_some] <;> rfl) | (simp [*, errW_none, errW_some] <;> rfl), zb1 HB GE271⟩

end Go.Proofs.Ytdgglhfnlljmeaa.PFnExactRoomFor
