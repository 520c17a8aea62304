/- Functions and contracts that FnExactMovePieces reaches (13 of 24). -/
import Derived.Test.YtdgglhfnlljmeaaQFnExactMovePiecesx11
namespace Go.Proofs.Ytdgglhfnlljmeaa.PFnExactMovePieces
open Go.RowKit Go.Proofs.YtdgglhfnlljmeaaW.PrintWords Go.Proofs.YtdgglhfnlljmeaaW.PrintLast Go.Proofs.YtdgglhfnlljmeaaW.PrintMore
attribute [local go_sem] max2_int min2_int max_two min_two max_three min_three max_four min_four   -- for this text's walks alone
set_option linter.unusedVariables false
set_option linter.unusedSimpArgs false
open Go.Proofs.YtdgglhfnlljmeaaX

/-! ### impl_allWithin: function 85 -/
def impl_allWithin.l0 : Nat → Int → Int → List Int → Int → Int → Option (Bool)
 | 0, _, _, _, _, _ => none
 | k + 1, x1, x2, x9, x10, x11 => if x11 < x10 then (if 0 ≤ x11 then (if x11 < (x9.length : Int) then ((impl_within.f (rd x9 x11) x1 x2).bind fun t258 => (if t258 = true then (impl_allWithin.l0 k x1 x2 x9 x10 (wrap64 (x11 + 1))) else (some false))) else (none)) else (none)) else (some true)
def impl_allWithin.f (k : Nat) (l0 : List Int) (a1 : Int) (a2 : Int) : Option (Bool) := impl_allWithin.l0 k a1 a2 l0 (l0.length : Int) 0
theorem impl_allWithin.mono_l : ∀ k, (∀ y0 y1 y2 y3 y4, LeO (impl_allWithin.l0 k y0 y1 y2 y3 y4) (impl_allWithin.l0 (k + 1) y0 y1 y2 y3 y4))
 | 0 => fun _ _ _ _ _ r h => by simp [impl_allWithin.l0] at h
 | k + 1 => by
  have ih0 := impl_allWithin.mono_l k
  ·intro y0 y1 y2 y3 y4
   unfold impl_allWithin.l0
   repeat' first
   | (with_reducible exact ih0 _ _ _ _ _)
   | (with_reducible exact LeO.refl _)
   | (with_reducible exact LeO.none _)
   | (with_reducible refine LeO.ite ?_ ?_)
   | (with_reducible refine LeO.bind ?_ (fun _ => ?_))
   | exact ih0 _ _ _ _ _
   | exact LeO.none _
   | refine LeO.ite ?_ ?_
   | refine LeO.bind ?_ (fun _ => ?_)
theorem impl_allWithin.mono : ∀ a0 a1 a2 k, LeO (impl_allWithin.f k a0 a1 a2) (impl_allWithin.f (k + 1) a0 a1 a2) := by
 intro a0 a1 a2 k
 have ih0 := impl_allWithin.mono_l k
 unfold impl_allWithin.f
 repeat' first
   | (with_reducible exact ih0 _ _ _ _ _)
   | (with_reducible exact LeO.refl _)
   | (with_reducible exact LeO.none _)
   | (with_reducible refine LeO.ite ?_ ?_)
   | (with_reducible refine LeO.bind ?_ (fun _ => ?_))
   | exact ih0 _ _ _ _ _
   | exact LeO.none _
   | refine LeO.ite ?_ ?_
   | refine LeO.bind ?_ (fun _ => ?_)
set_option maxHeartbeats 8000000 in
set_option maxRecDepth 100000 in
theorem impl_allWithin.calls (k : Nat) (A0 : Option Addr) (c0 : Nat) (l0 : List Int) (a1 : Int) (a2 : Int) (r : Bool) (w : World) (hr0 : Kd.C (Kd.int .i64) w A0 l0.length l0) (hc0 : l0.length ≤ c0) (h : impl_allWithin.f k l0 a1 a2 = some r) :
  Calls Try.prog 85 #[.slice A0 l0.length c0, .int .i64 a1, .int .i64 a2] w fun e w' => e = .returned (.bool r) ∧ Drawn0 w w' := by
 have HR0 := jA hr0
 have HC0 := jA hc0
 clear hr0 hc0
 have H : (impl_allWithin.l0 k a1 a2 l0 (l0.length : Int) 0) = some r := h
 clear h
 have H' := jA H
 clear H
 go_enter Try.func85, Try.ntmps85
 go_wp2
 go_loopg [11] k (fun kq v11 w' => ∃ (x11_1 : Int), v11 = .int .i64 x11_1 ∧ Aside0 (impl_allWithin.l0 kq a1 a2 l0 (l0.length : Int) x11_1 = some r) ∧ Aside0 (kq ≤ k) ∧ Drawn0 w w')
 case atStart => exact ⟨(0), zz, H', ⟨Nat.le_refl _⟩, by repeat (first | exact Drawn0.refl _ | apply Drawn0.step)⟩
 case round =>
  clear H'
  try clear p2
  obtain ⟨x11_1, rfl, HA, HK1, ⟨m1, rfl⟩⟩ := hrel
  cases gk with
  | zero => exact absurd HA.out (by simp [impl_allWithin.l0])
  | succ k1 =>
   have H := HA.out
   clear HA
   simp only [impl_allWithin.l0] at H
   by_cases c4 : x11_1 < (l0.length : Int)
   ·rw [if_pos c4] at H
    have c4b0 : decide (x11_1 < (l0.length : Int)) = true := jI c4
    clear c4
    by_cases c5 : 0 ≤ x11_1
    ·rw [if_pos c5] at H
     have c5b0 : decide (0 ≤ x11_1) = true := jI c5
     clear c5
     by_cases c6 : x11_1 < (l0.length : Int)
     ·rw [if_pos c6] at H
      have c6b0 : decide (x11_1 < (l0.length : Int)) = true := jI c6
      clear c6
      replace H := jG.mp H
      obtain ⟨t258, A70, H⟩ := H
      replace H : (if t258 = true then (impl_allWithin.l0 k1 a1 a2 l0 (l0.length : Int) (wrap64 (x11_1 + 1))) else (some false)) = some r := H
      have A7 := jA A70
      clear A70
      by_cases c8 : t258 = true
      ·subst c8
       rw [if_pos rfl] at H
       have H' := jA H
       clear H
       have p257 : 0 ≤ (x11_1 : Int) := jB za
       have q257 : x11_1 < (l0.length : Int) := jB za
       obtain ⟨ad257, e257, hx257_0⟩ := Kd.at_int HR0.out x11_1 p257 q257
       cases e257
       replace p257 := eq_true p257
       replace q257 := eq_true q257
       go_wp2_with (first | ((with_reducible refine jK (f := 61) rfl ?_); refine zL (some 18) Try.func61 #[.int .i64 (rd l0 x11_1), .int .i64 a1, .int .i64 a2] ?_; (with_reducible refine (impl_within.calls (rd l0 x11_1) a1 a2 true _ A7.out).mono ?_); rintro e w' ⟨rfl, ⟨nd, rfl⟩⟩; refine ⟨_, rfl, ?_⟩))
       go_roundg k1
       case measure => have := HK1.out; omega
       case rel => exact ⟨(wrap64 (x11_1 + 1)), zz, H', ⟨by have := HK1.out; omega⟩, by repeat (first | exact Drawn0.refl _ | apply Drawn0.step)⟩
      ·replace c8 := Bool.eq_false_iff.mpr c8
       subst c8
       rw [if_neg zfalse] at H
       obtain rfl := jH H
       have p257 : 0 ≤ (x11_1 : Int) := jB za
       have q257 : x11_1 < (l0.length : Int) := jB za
       obtain ⟨ad257, e257, hx257_0⟩ := Kd.at_int HR0.out x11_1 p257 q257
       cases e257
       replace p257 := eq_true p257
       replace q257 := eq_true q257
       go_wp2_with (first | ((with_reducible refine jK (f := 61) rfl ?_); refine zL (some 18) Try.func61 #[.int .i64 (rd l0 x11_1), .int .i64 a1, .int .i64 a2] ?_; (with_reducible refine (impl_within.calls (rd l0 x11_1) a1 a2 false _ A7.out).mono ?_); rintro e w' ⟨rfl, ⟨nd, rfl⟩⟩; refine ⟨_, rfl, ?_⟩))
       go_ret
       exact ⟨by first | rfl | (simp; done) | (simp [*]; done), by repeat (first | exact Drawn0.refl _ | apply Drawn0.step)⟩
     ·rw [if_neg c6] at H
      exact absurd H (by simp)
    ·rw [if_neg c5] at H
     exact absurd H (by simp)
   ·rw [if_neg c4] at H
    have c4b0 : decide (x11_1 < (l0.length : Int)) = false := jM c4
    clear c4
    obtain rfl := jH H
    go_wp2
    go_ret
    exact ⟨by first | rfl | (simp; done) | (simp [*]; done), by repeat (first | exact Drawn0.refl _ | apply Drawn0.step)⟩

/-! ### impl_areCounts: function 62 -/
def impl_areCounts.f (k : Nat) (l0 : List (S65)) (l1 : List Int) : Option (Bool) := if (l1.length : Int) = (l0.length : Int) then ((impl_allWithin.f k l1 0 1000).bind fun t259 => (some t259)) else (some false)
theorem impl_areCounts.mono : ∀ a0 a1 k, LeO (impl_areCounts.f k a0 a1) (impl_areCounts.f (k + 1) a0 a1) := by
 intro a0 a1 k
 unfold impl_areCounts.f
 repeat' first
   | (with_reducible exact impl_allWithin.mono _ _ _ _)
   | (with_reducible exact LeO.refl _)
   | (with_reducible exact LeO.none _)
   | (with_reducible refine LeO.ite ?_ ?_)
   | (with_reducible refine LeO.bind ?_ (fun _ => ?_))
   | exact impl_allWithin.mono _ _ _ _
   | exact LeO.none _
   | refine LeO.ite ?_ ?_
   | refine LeO.bind ?_ (fun _ => ?_)
set_option maxHeartbeats 8000000 in
set_option maxRecDepth 100000 in
theorem impl_areCounts.calls (k : Nat) (A0 : Option Addr) (c0 : Nat) (l0 : List (S65)) (A1 : Option Addr) (c1 : Nat) (l1 : List Int) (r : Bool) (w : World) (hr0 : Kd.C k65 w A0 l0.length l0) (hc0 : l0.length ≤ c0) (hr1 : Kd.C (Kd.int .i64) w A1 l1.length l1) (hc1 : l1.length ≤ c1) (h : impl_areCounts.f k l0 l1 = some r) :
  Calls Try.prog 62 #[.slice A0 l0.length c0, .slice A1 l1.length c1] w fun e w' => e = .returned (.bool r) ∧ Drawn0 w w' := by
 have HR0 := jA hr0
 have HC0 := jA hc0
 clear hr0 hc0
 have HR1 := jA hr1
 have HC1 := jA hc1
 clear hr1 hc1
 have H := h
 unfold impl_areCounts.f at H
 clear h
 by_cases c3 : (l1.length : Int) = (l0.length : Int)
 ·rw [if_pos c3] at H
  have c3b0 : ((l1.length : Int) == (l0.length : Int)) = true := beq_iff_eq.mpr c3
  have c3b1 : ((l1.length : Int) != (l0.length : Int)) = false := bne_eq_false_iff_eq.mpr c3
  have c3b2 : (l1.length == l0.length) = true := by first | simpa using c3 | (simp at c3 ⊢; omega)
  clear c3
  replace H := jG.mp H
  obtain ⟨t259, A40, H⟩ := H
  replace H : (some t259) = some r := H
  have A4 := jA A40
  clear A40
  obtain rfl := jH H
  go_enter Try.func62, Try.ntmps62
  go_wp2_with (first | (go_at_call 85; (with_reducible refine (impl_allWithin.calls k _ _ l1 0 1000 t259 _ ?side1 ?side2 A4.out).mono ?_); (case side1 => repeat (first | exact HR1.out | (with_reducible refine Kd.C_alloc ?_ _) | (with_reducible refine Kd.C_drewN ?_ _) | (with_reducible refine Kd.C_drew ?_))); (case side2 => exact HC1.out); rintro e w' ⟨rfl, ⟨nd, rfl⟩⟩))
  go_ret
  exact ⟨by first | rfl | (simp; done) | (simp [*]; done), by repeat (first | exact Drawn0.refl _ | apply Drawn0.step)⟩
 ·rw [if_neg c3] at H
  have c3b0 : ((l1.length : Int) == (l0.length : Int)) = false := beq_eq_false_iff_ne.mpr c3
  have c3b1 : ((l1.length : Int) != (l0.length : Int)) = true := bne_iff_ne.mpr c3
  have c3b2 : (l1.length == l0.length) = false := by first | simpa using c3 | (simp at c3 ⊢; omega)
  obtain rfl := jH H
  go_enter Try.func62, Try.ntmps62
  go_wp2
  go_ret
  exact ⟨by first | rfl | (simp; done) | (simp [*]; done), by repeat (first | exact Drawn0.refl _ | apply Drawn0.step)⟩

/-! ### impl_IsMagazine: function 26 -/
def impl_IsMagazine.f (k : Nat) (l0 : List (S65)) (a1_0 : Int) (l1_1 : List Int) : Option (Bool) := (impl_AreArticles.f k l0).bind fun t261 => (if t261 = true then ((impl_within.f a1_0 0 1000000000).bind fun t262 => (if t262 = true then ((impl_areCounts.f k l0 l1_1).bind fun t263 => (some t263)) else (some false))) else (some false))
theorem impl_IsMagazine.mono : ∀ a0 a1 a2 k, LeO (impl_IsMagazine.f k a0 a1 a2) (impl_IsMagazine.f (k + 1) a0 a1 a2) := by
 intro a0 a1 a2 k
 unfold impl_IsMagazine.f
 repeat' first
   | (with_reducible exact impl_AreArticles.mono _ _)
   | (with_reducible exact impl_areCounts.mono _ _ _)
   | (with_reducible exact LeO.refl _)
   | (with_reducible exact LeO.none _)
   | (with_reducible refine LeO.ite ?_ ?_)
   | (with_reducible refine LeO.bind ?_ (fun _ => ?_))
   | exact impl_AreArticles.mono _ _
   | exact impl_areCounts.mono _ _ _
   | exact LeO.none _
   | refine LeO.ite ?_ ?_
   | refine LeO.bind ?_ (fun _ => ?_)
set_option maxHeartbeats 8000000 in
set_option maxRecDepth 100000 in
theorem impl_IsMagazine.calls (k : Nat) (A0 : Option Addr) (c0 : Nat) (l0 : List (S65)) (a1_0 : Int) (A1_1 : Option Addr) (c1_1 : Nat) (l1_1 : List Int) (r : Bool) (w : World) (hr0 : Kd.C k65 w A0 l0.length l0) (hc0 : l0.length ≤ c0) (hr1_1 : Kd.C (Kd.int .i64) w A1_1 l1_1.length l1_1) (hc1_1 : l1_1.length ≤ c1_1) (h : impl_IsMagazine.f k l0 a1_0 l1_1 = some r) :
  Calls Try.prog 26 #[.slice A0 l0.length c0, .agg #[.int .i64 a1_0, .slice A1_1 l1_1.length c1_1]] w fun e w' => e = .returned (.bool r) ∧ Below w.heap.size w w' := by
 have hu28 := Try.underlying28
 have HR0 := jA hr0
 have HC0 := jA hc0
 clear hr0 hc0
 have HR1_1 := jA hr1_1
 have HC1_1 := jA hc1_1
 clear hr1_1 hc1_1
 have HB := jA (Below.refl w.heap.size w)
 have H := h
 unfold impl_IsMagazine.f at H
 clear h
 replace H := jG.mp H
 obtain ⟨t261, A30, H⟩ := H
 try dsimp only at H
 have A3 := jA A30
 clear A30
 by_cases c4 : t261 = true
 ·subst c4
  rw [if_pos rfl] at H
  replace H := jG.mp H
  obtain ⟨t262, A50, H⟩ := H
  try dsimp only at H
  have A5 := jA A50
  clear A50
  by_cases c6 : t262 = true
  ·subst c6
   rw [if_pos rfl] at H
   replace H := jG.mp H
   obtain ⟨t263, A70, H⟩ := H
   replace H : (some t263) = some r := H
   have A7 := jA A70
   clear A70
   obtain rfl := jH H
   go_enter Try.func26, Try.ntmps26
   go_wp2_with (first | ((with_reducible refine jJ (N := 3) rfl ?_); refine zE 3 #[.int .i64 a1_0, .slice A1_1 l1_1.length c1_1] 28 ?_; intro gb260 hg w8 hbox hb; have BK260 := jA (hbox); have GW260 := zg0 hg HB; have GE260 := zg0 hg HB; replace HB := zS0 HB hb; clear hb hbox hg) | ((with_reducible refine jK (f := 60) rfl ?_); refine zL (some 6) Try.func60 #[.slice A0 l0.length c0] ?_; (with_reducible refine (impl_AreArticles.calls k _ _ l0 true _ ?side1 ?side2 A3.out).mono ?_); (case side1 => exact zs HR0 HB); (case side2 => exact HC0.out); rintro e w9 ⟨rfl, hb⟩; refine ⟨_, rfl, ?_⟩; replace BK260 := zB BK260 hb; replace HB := zS1 HB GE260 hb; clear hb; have hcz10 := zc2 BK260) | (go_at_call 61; (with_reducible refine (impl_within.calls a1_0 0 1000000000 true _ A5.out).mono ?_); rintro e w' ⟨rfl, ⟨nd, rfl⟩⟩) | (go_at_call 62; (with_reducible refine (impl_areCounts.calls k _ _ l0 _ _ l1_1 t263 _ ?side1 ?side2 ?side3 ?side4 A7.out).mono ?_); (case side1 => repeat (first | exact HR0.out | exact (Kd.C_below HR0.out (zb1 HB GE260)) | (with_reducible refine Kd.C_alloc ?_ _) | (with_reducible refine Kd.C_drewN ?_ _) | (with_reducible refine Kd.C_drew ?_))); (case side2 => exact HC0.out); (case side3 => repeat (first | exact HR1_1.out | exact (Kd.C_below HR1_1.out (zb1 HB GE260)) | (with_reducible refine Kd.C_alloc ?_ _) | (with_reducible refine Kd.C_drewN ?_ _) | (with_reducible refine Kd.C_drew ?_))); (case side4 => exact HC1_1.out); rintro e w' ⟨rfl, ⟨nd, rfl⟩⟩))
   go_ret
   exact ⟨ze, zb1 HB GE260⟩
  ·replace c6 := Bool.eq_false_iff.mpr c6
   subst c6
   rw [if_neg zfalse] at H
   obtain rfl := jH H
   go_enter Try.func26, Try.ntmps26
   go_wp2_with (first | ((with_reducible refine jJ (N := 3) rfl ?_); refine zE 3 #[.int .i64 a1_0, .slice A1_1 l1_1.length c1_1] 28 ?_; intro gb260 hg w11 hbox hb; have BK260 := jA (hbox); have GW260 := zg0 hg HB; have GE260 := zg0 hg HB; replace HB := zS0 HB hb; clear hb hbox hg) | ((with_reducible refine jK (f := 60) rfl ?_); refine zL (some 6) Try.func60 #[.slice A0 l0.length c0] ?_; (with_reducible refine (impl_AreArticles.calls k _ _ l0 true _ ?side1 ?side2 A3.out).mono ?_); (case side1 => exact zs HR0 HB); (case side2 => exact HC0.out); rintro e w12 ⟨rfl, hb⟩; refine ⟨_, rfl, ?_⟩; replace BK260 := zB BK260 hb; replace HB := zS1 HB GE260 hb; clear hb; have hcz13 := zc2 BK260) | (go_at_call 61; (with_reducible refine (impl_within.calls a1_0 0 1000000000 false _ A5.out).mono ?_); rintro e w' ⟨rfl, ⟨nd, rfl⟩⟩))
   go_ret
   exact ⟨ze, zb1 HB GE260⟩
 ·replace c4 := Bool.eq_false_iff.mpr c4
  subst c4
  rw [if_neg zfalse] at H
  obtain rfl := jH H
  go_enter Try.func26, Try.ntmps26
  go_wp2_with (first | ((with_reducible refine jJ (N := 3) rfl ?_); refine zE 3 #[.int .i64 a1_0, .slice A1_1 l1_1.length c1_1] 28 ?_; intro gb260 hg w14 hbox hb; have BK260 := jA (hbox); have GW260 := zg0 hg HB; have GE260 := zg0 hg HB; replace HB := zS0 HB hb; clear hb hbox hg) | ((with_reducible refine jK (f := 60) rfl ?_); refine zL (some 6) Try.func60 #[.slice A0 l0.length c0] ?_; (with_reducible refine (impl_AreArticles.calls k _ _ l0 false _ ?side1 ?side2 A3.out).mono ?_); (case side1 => exact zs HR0 HB); (case side2 => exact HC0.out); rintro e w15 ⟨rfl, hb⟩; refine ⟨_, rfl, ?_⟩; replace BK260 := zB BK260 hb; replace HB := zS1 HB GE260 hb; clear hb))
  go_ret
  exact ⟨ze, zb1 HB GE260⟩

/-! ### impl_articleOf: function 70 -/
def impl_articleOf.l0 : Nat → ByteArray → List (S65) → Int → Int → Option (Int)
 | 0, _, _, _, _ => none
 | k + 1, x1, x7, x8, x9 => if x9 < x8 then (if 0 ≤ x9 then (if x9 < (x7.length : Int) then (if ((rd_T65 x7 x9).f0).toList = x1.toList then (some x9) else (impl_articleOf.l0 k x1 x7 x8 (wrap64 (x9 + 1)))) else (none)) else (none)) else (some (-1))
def impl_articleOf.f (k : Nat) (l0 : List (S65)) (a1 : ByteArray) : Option (Int) := impl_articleOf.l0 k a1 l0 (l0.length : Int) 0
theorem impl_articleOf.mono_l : ∀ k, (∀ y0 y1 y2 y3, LeO (impl_articleOf.l0 k y0 y1 y2 y3) (impl_articleOf.l0 (k + 1) y0 y1 y2 y3))
 | 0 => fun _ _ _ _ r h => by simp [impl_articleOf.l0] at h
 | k + 1 => by
  have ih0 := impl_articleOf.mono_l k
  ·intro y0 y1 y2 y3
   unfold impl_articleOf.l0
   repeat' first
   | (with_reducible exact ih0 _ _ _ _)
   | (with_reducible exact LeO.refl _)
   | (with_reducible exact LeO.none _)
   | (with_reducible refine LeO.ite ?_ ?_)
   | (with_reducible refine LeO.bind ?_ (fun _ => ?_))
   | exact ih0 _ _ _ _
   | exact LeO.none _
   | refine LeO.ite ?_ ?_
   | refine LeO.bind ?_ (fun _ => ?_)
theorem impl_articleOf.mono : ∀ a0 a1 k, LeO (impl_articleOf.f k a0 a1) (impl_articleOf.f (k + 1) a0 a1) := by
 intro a0 a1 k
 have ih0 := impl_articleOf.mono_l k
 unfold impl_articleOf.f
 repeat' first
   | (with_reducible exact ih0 _ _ _ _)
   | (with_reducible exact LeO.refl _)
   | (with_reducible exact LeO.none _)
   | (with_reducible refine LeO.ite ?_ ?_)
   | (with_reducible refine LeO.bind ?_ (fun _ => ?_))
   | exact ih0 _ _ _ _
   | exact LeO.none _
   | refine LeO.ite ?_ ?_
   | refine LeO.bind ?_ (fun _ => ?_)
set_option maxHeartbeats 8000000 in
set_option maxRecDepth 100000 in
theorem impl_articleOf.calls (k : Nat) (A0 : Option Addr) (c0 : Nat) (l0 : List (S65)) (a1 : ByteArray) (r : Int) (w : World) (hr0 : Kd.C k65 w A0 l0.length l0) (hc0 : l0.length ≤ c0) (h : impl_articleOf.f k l0 a1 = some r) :
  Calls Try.prog 70 #[.slice A0 l0.length c0, .string a1] w fun e w' => e = .returned (.int .i64 r) ∧ Below w.heap.size w w' := by
 have hu65 := Try.underlying65
 have HR0 := jA hr0
 have HC0 := jA hc0
 clear hr0 hc0
 have HB := jA (Below.refl w.heap.size w)
 have H : (impl_articleOf.l0 k a1 l0 (l0.length : Int) 0) = some r := h
 clear h
 have H' := jA H
 clear H
 go_enter Try.func70, Try.ntmps70
 go_wp2
 go_loopg [9] k (fun kq v9 w' => ∃ (x9_1 : Int), v9 = .int .i64 x9_1 ∧ Aside0 (impl_articleOf.l0 kq a1 l0 (l0.length : Int) x9_1 = some r) ∧ Aside0 (kq ≤ k) ∧ Aside0 (Below w.heap.size w w'))
 case atStart => exact ⟨(0), zz, H', ⟨Nat.le_refl _⟩, ⟨zb0 HB⟩⟩
 case round =>
  clear H'
  try clear p2
  obtain ⟨x9_1, rfl, HA, HK1, HB⟩ := hrel
  cases gk with
  | zero => exact absurd HA.out (by simp [impl_articleOf.l0])
  | succ k1 =>
   have H := HA.out
   clear HA
   simp only [impl_articleOf.l0] at H
   by_cases c3 : x9_1 < (l0.length : Int)
   ·rw [if_pos c3] at H
    have c3b0 : decide (x9_1 < (l0.length : Int)) = true := jI c3
    clear c3
    by_cases c4 : 0 ≤ x9_1
    ·rw [if_pos c4] at H
     have c4b0 : decide (0 ≤ x9_1) = true := jI c4
     clear c4
     by_cases c5 : x9_1 < (l0.length : Int)
     ·rw [if_pos c5] at H
      have c5b0 : decide (x9_1 < (l0.length : Int)) = true := jI c5
      clear c5
      by_cases c6 : ((rd_T65 l0 x9_1).f0).toList = a1.toList
      ·rw [if_pos c6] at H
       have c6b0 : (((rd_T65 l0 x9_1).f0).toList == a1.toList) = true := beq_iff_eq.mpr c6
       have c6b1 : (((rd_T65 l0 x9_1).f0).toList != a1.toList) = false := bne_eq_false_iff_eq.mpr c6
       clear c6
       obtain rfl := jH H
       have p264 : 0 ≤ (x9_1 : Int) := jB za
       have q264 : x9_1 < (l0.length : Int) := jB za
       obtain ⟨ad264, e264, hx264_0, hx264_1, hx264_2, hx264_3, hx264_4, hx264_5, hx264_6, hx264_7, hx264_8⟩ := at_T65 HR0.out x9_1 p264 q264
       cases e264
       replace hx264_0 := zx HB hx264_0
       replace hx264_1 := zx HB hx264_1
       replace hx264_2 := zx HB hx264_2
       replace hx264_3 := zx HB hx264_3
       replace hx264_4 := zx HB hx264_4
       replace hx264_5 := zx HB hx264_5
       replace hx264_6 := zx HB hx264_6
       replace hx264_7 := zx HB hx264_7
       replace hx264_8 := zx HB hx264_8
       replace p264 := eq_true p264
       replace q264 := eq_true q264
       go_wp2_with (first | ((with_reducible refine jJ (N := 6) rfl ?_); refine zE 6 #[.string (⟨#[]⟩ : ByteArray), .int .i64 0, .int .i64 0, .int .i64 0, .int .i64 0, .int .i64 0, .int .i64 0, .int .i64 0, .int .i64 0] 65 ?_; intro gb265 hg w7 hbox hb; have BK265 := jA (hbox); have GW265 := zg0 hg HB; have GE265 := zg0 hg HB; replace HB := zS0 HB hb; clear hb hbox hg; have hcz8 := zc9 BK265))
       go_ret
       exact ⟨ze, zb1 HB GE265⟩
      ·rw [if_neg c6] at H
       have c6b0 : (((rd_T65 l0 x9_1).f0).toList == a1.toList) = false := beq_eq_false_iff_ne.mpr c6
       have c6b1 : (((rd_T65 l0 x9_1).f0).toList != a1.toList) = true := bne_iff_ne.mpr c6
       have H' := jA H
       clear H
       have p264 : 0 ≤ (x9_1 : Int) := jB za
       have q264 : x9_1 < (l0.length : Int) := jB za
       obtain ⟨ad264, e264, hx264_0, hx264_1, hx264_2, hx264_3, hx264_4, hx264_5, hx264_6, hx264_7, hx264_8⟩ := at_T65 HR0.out x9_1 p264 q264
       cases e264
       replace hx264_0 := zx HB hx264_0
       replace hx264_1 := zx HB hx264_1
       replace hx264_2 := zx HB hx264_2
       replace hx264_3 := zx HB hx264_3
       replace hx264_4 := zx HB hx264_4
       replace hx264_5 := zx HB hx264_5
       replace hx264_6 := zx HB hx264_6
       replace hx264_7 := zx HB hx264_7
       replace hx264_8 := zx HB hx264_8
       replace p264 := eq_true p264
       replace q264 := eq_true q264
       go_wp2_with (first | ((with_reducible refine jJ (N := 6) rfl ?_); refine zE 6 #[.string (⟨#[]⟩ : ByteArray), .int .i64 0, .int .i64 0, .int .i64 0, .int .i64 0, .int .i64 0, .int .i64 0, .int .i64 0, .int .i64 0] 65 ?_; intro gb265 hg w9 hbox hb; have BK265 := jA (hbox); have GW265 := zg0 hg HB; have GE265 := zg0 hg HB; replace HB := zS0 HB hb; clear hb hbox hg; have hcz10 := zc9 BK265))
       go_roundg k1
       case measure => have := HK1.out; omega
       case rel => exact ⟨(wrap64 (x9_1 + 1)), zz, H', ⟨by have := HK1.out; omega⟩, ⟨zb1 HB GE265⟩⟩
     ·rw [if_neg c5] at H
      exact absurd H (by simp)
    ·rw [if_neg c4] at H
     exact absurd H (by simp)
   ·rw [if_neg c3] at H
    have c3b0 : decide (x9_1 < (l0.length : Int)) = false := jM c3
    clear c3
    obtain rfl := jH H
    go_wp2
    go_ret
    exact ⟨ze, zb0 HB⟩

/-! ### impl_copyList: function 87 -/
def impl_copyList.f (l0 : List Int) : Option (List Int) := (some (([] : List Int) : List Int)).bind fun y266 => (if y266.length + l0.length < 17592186044416 then (some (y266 ++ l0)) else (none))
set_option maxHeartbeats 8000000 in
set_option maxRecDepth 100000 in
theorem impl_copyList.calls (A0 : Option Addr) (c0 : Nat) (l0 : List Int) (r : List Int) (w : World) (hr0 : Kd.C (Kd.int .i64) w A0 l0.length l0) (hc0 : l0.length ≤ c0) (h : impl_copyList.f l0 = some r) :
  Calls Try.prog 87 #[.slice A0 l0.length c0] w fun e w' => ∃ v0_ : Value, e = .returned (v0_) ∧ Kd.R (Kd.int .i64) 2 w' w.heap.size (fun _ => True) v0_ r ∧ Below w.heap.size w w' := by
 have HR0 := jA hr0
 have HC0 := jA hc0
 clear hr0 hc0
 have HB := jA (Below.refl w.heap.size w)
 have H := h
 unfold impl_copyList.f at H
 clear h
 obtain ⟨y266, hy266⟩ : ∃ y_ : List Int, y_ = (([] : List Int)) := ⟨_, rfl⟩
 replace H : (if y266.length + l0.length < 17592186044416 then (some (y266 ++ l0)) else (none)) = some r := by first | (rw [hy266]; with_reducible exact H) | (have H2_ := (Option.bind_some _ _).symm.trans H; rw [hy266]; with_reducible exact H2_) | (have H2_ := (Option.bind_some _ _).symm.trans H; with_reducible exact H2_) | with_reducible exact H | (rw [hy266]; exact H) | exact H
 have Ny266 := jA hy266
 clear hy266
 by_cases c2 : y266.length + l0.length < 17592186044416
 ·rw [if_pos c2] at H
  have LMc2 := jA c2
  clear c2
  obtain ⟨y269, hy269⟩ : ∃ y_ : List Int, y_ = (y266 ++ l0) := ⟨_, rfl⟩
  replace H : (some y269) = some r := by first | (rw [hy269]; with_reducible exact H) | (have H2_ := (Option.bind_some _ _).symm.trans H; rw [hy269]; with_reducible exact H2_) | (have H2_ := (Option.bind_some _ _).symm.trans H; with_reducible exact H2_) | with_reducible exact H | (rw [hy269]; exact H) | exact H
  have Ny269 := jA hy269
  clear hy269
  obtain rfl := jH H
  go_enter Try.func87, Try.ntmps87
  go_wp2_with (first | ((with_reducible refine jJ (N := 3) rfl ?_); refine Kd.R_lit (Kd.int .i64) _ 2 ?hg (N := 3) ?hd (xs := ([] : List Int)) (inner := []) (ok := fun _ => True) (okp := fun _ => True) ?hr ?hp (fun _ hk => hk) trivial (Below.refl _ _) (Nat.le_refl _) (by simp) ?_; (case hd => rfl); (case hg => rfl); (case hr => first | (go_simp; done) | (go_simp; rfl)); (case hp => exact (Reps.none _ _)); intro v267 w3 ho4 hb hg_ hnew_; clear hg_ hnew_; (first | rw [← Ny266.out] at ho4 | (simp only [Int.reduceToNat] at ho4; rw [← Ny266.out] at ho4)); have HO268 := jA (Kd.R_lower ho4 (below_size (zb0 HB))); replace HB := zS0 HB hb; clear hb ho4) | ((with_reducible refine gate_builtin (b := .append) (xs := #[.tmp 3, .tmp 4]) rfl ?_); at_builtin; refine Kd.R_append_rows (Kd.int .i64) (w0 := w) w.heap.size rfl (.tmp 3) (.tmp 4) 23 2 (.int .i64 0) 8 rfl Try.underlying23 info2 rfl (by decide) (by omega) v267 y266 l0 _ _ _ (fun _ => True) (fun _ => False) rfl rfl ?aO ?aR (fun _ _ h => h) (fun _ h => h.elim) ?aF ?aB ?aS ?aL ?_; (case aR => repeat (first | exact HR0.out | exact (Kd.C_below HR0.out HB.out) | (with_reducible refine Kd.C_alloc ?_ _) | (with_reducible refine Kd.C_drewN ?_ _) | (with_reducible refine Kd.C_drew ?_))); (case aB => exact (zb0 HB)); (case aF => exact (fun _ _ => trivial)); (case aO => exact (zo HO268)); (case aS => exact (below_size (zb0 HB))); (case aL => have := LMc2.out; omega); intro v270 w5 ho hb hg hat; rw [← Ny269.out] at ho; replace HB := jA (hb); have HO271 := jA (ho); clear HO268; clear ho hb hg hat))
  go_ret
  exact ⟨_, ze, zo HO271, zb0 HB⟩
 ·rw [if_neg c2] at H
  exact absurd H (by simp)

/-! ### impl_withPieces: function 74 -/
def impl_withPieces.f (a0_0 : Int) (l0_1 : List Int) (a1 : Int) (a2 : Int) : Option (Int × List Int) := (impl_copyList.f l0_1).bind fun t274 => (if 0 ≤ a1 then (if a1 < (t274.length : Int) then (some (a0_0, (t274.set (a1 : Int).toNat (wrap64 ((rd t274 a1) + a2))))) else (none)) else (none))
def impl_withPieces.T1 : Bool × List (List Nat × List Nat) := (true, [([], []), ([0], [0]), ([], []), ([2], [2]), ([3], [3]), ([1, 4], [1, 4]), ([], []), ([6, 5, 4, 0, 1, 2, 3, 4, 5, 6], [5, 6])])
def impl_withPieces.B1 : List Nat := [0, 1, 0, 4, 12, 31, 0, 127]
theorem impl_withPieces.tab1 : rtab .any (opsOf Try.f74 1) = impl_withPieces.T1 := by kernel_rfl
theorem impl_withPieces.bits1 : waitsOk impl_withPieces.T1.2 impl_withPieces.B1 = true := by kernel_rfl
set_option maxHeartbeats 8000000 in
set_option maxRecDepth 100000 in
theorem impl_withPieces.calls (a0_0 : Int) (A0_1 : Option Addr) (c0_1 : Nat) (l0_1 : List Int) (a1 : Int) (a2 : Int) (r1 : Int) (r2 : List Int) (w : World) (hr0_1 : Kd.C (Kd.int .i64) w A0_1 l0_1.length l0_1) (hc0_1 : l0_1.length ≤ c0_1) (h : impl_withPieces.f a0_0 l0_1 a1 a2 = some (r1, r2)) :
  Calls Try.prog 74 #[.agg #[.int .i64 a0_0, .slice A0_1 l0_1.length c0_1], .int .i64 a1, .int .i64 a2] w fun e w' => ∃ v1_ : Value, e = .returned (.agg #[.int .i64 r1, v1_]) ∧ Kd.R (Kd.int .i64) 2 w' w.heap.size (fun _ => True) v1_ r2 ∧ Below w.heap.size w w' := by
 have hu28 := Try.underlying28
 have HR0_1 := jA hr0_1
 have HC0_1 := jA hc0_1
 clear hr0_1 hc0_1
 have HB := jA (Below.refl w.heap.size w)
 have H := h
 unfold impl_withPieces.f at H
 clear h
 replace H := jG.mp H
 obtain ⟨t274, A40, H⟩ := H
 try dsimp only at H
 have A4 := jA A40
 clear A40
 by_cases c5 : 0 ≤ a1
 ·rw [if_pos c5] at H
  have c5b0 : decide (0 ≤ a1) = true := jI c5
  clear c5
  by_cases c6 : a1 < (t274.length : Int)
  ·rw [if_pos c6] at H
   have c6b0 : decide (a1 < (t274.length : Int)) = true := jI c6
   clear c6
   obtain ⟨y279, hy279⟩ : ∃ y_ : List Int, y_ = (t274.set (a1 : Int).toNat (wrap64 ((rd t274 a1) + a2))) := ⟨_, rfl⟩
   replace H : (some (a0_0, y279)) = some (r1, r2) := by first | (rw [hy279]; with_reducible exact H) | (have H2_ := (Option.bind_some _ _).symm.trans H; rw [hy279]; with_reducible exact H2_) | (have H2_ := (Option.bind_some _ _).symm.trans H; with_reducible exact H2_) | with_reducible exact H | (rw [hy279]; exact H) | exact H
   have Ny279 := jA hy279
   clear hy279
   simp only [jN, jQ] at H
   obtain ⟨rfl, rfl⟩ := H
   go_enter Try.func74, Try.ntmps74
   try go_wp2_with (first | ((with_reducible refine jJ (N := 3) rfl ?_); refine zE 3 #[.int .i64 a0_0, .slice A0_1 l0_1.length c0_1] 28 ?_; intro gb272 hg w8 hbox hb; have BK272 := jA (hbox); have GW272 := zg0 hg HB; have GE272 := zg0 hg HB; replace HB := zS0 HB hb; clear hb hbox hg) | ((with_reducible refine jJ (N := 6) rfl ?_); refine zE 6 #[.int .i64 0, .slice none 0 0] 28 ?_; intro gb273 hg w9 hbox hb; have BK273 := jA (hbox); have GW273 := zg1 hg HB GE272; have GE273 := zg1 hg HB GE272; replace HB := zS1 HB GE272 hb; have NB272_273 := zn hg BK272; replace BK272 := zB BK272 hb; have NB273_272 := jA NB272_273.out.symm; clear hb hbox hg))
   replace BK272 := jA (blk_drew BK272.out)
   replace BK273 := jA (blk_drew BK273.out)
   replace HB := jA (jR HB.out)
   refine start_ (n := 8) (S := fun w' => w'.cell? ⟨gb272, 0, none⟩ = some (.int .i64 a0_0) ∧ w'.cell? ⟨gb272, 1, none⟩ = some (.slice A0_1 l0_1.length c0_1)) (ds := []) m8_0 zr rfl rfl ⟨(jD BK272.out 0).trans rfl, (jD BK272.out 1).trans rfl⟩ (fun hHeld => ?_); refine with_tabW impl_withPieces.tab1 impl_withPieces.bits1 (fun HT_ HW_ => ?_)
   generalize w9.drew = w10 at BK272 BK273 HB hHeld ⊢
   refine zp HT_ 0 8 m8_80 ?_
   refine zp HT_ 2 10 m8_a0 ?_
   refine zt2 HT_ HW_ hHeld 1 9 m8_e0 ?_
   refine zt2 HT_ HW_ hHeld 3 11 m8_f0 ?_
   refine join_ (σ := Value × Nat) 1 m8_fe (fun s_ => [(12, s_.1), (7, .pointer (some ⟨s_.2, 0, none⟩)), (13, .agg #[.int .i64 a0_0, s_.1])]) (fun s_ w' => (w'.cell? ⟨gb272, 0, none⟩ = some (.int .i64 a0_0) ∧ w'.cell? ⟨gb272, 1, none⟩ = some (.slice A0_1 l0_1.length c0_1)) ∧ (Kd.R (Kd.int .i64) 2 w' w.heap.size (fun _ => True) s_.1 t274) ∧ (w'.heap[gb272]? = some (.cells #[.int .i64 a0_0, .slice A0_1 l0_1.length c0_1] 28 (0, 0))) ∧ (w'.heap[gb273]? = some (.cells #[.int .i64 0, .slice none 0 0] 28 (0, 0))) ∧ (w'.heap[s_.2]? = some (.cells #[.int .i64 0, .slice none 0 0] 28 (0, 0))) ∧ (w.heap.size ≤ s_.2) ∧ (w.heap.size ≤ s_.2) ∧ (gb272 ≠ s_.2) ∧ (s_.2 ≠ gb272) ∧ (gb273 ≠ s_.2) ∧ (s_.2 ≠ gb273) ∧ (Below w.heap.size w w')) ?_ ?_
   rotate_left
   ·intro hCont
    refine two_ (i := 4) (j := 6) (Ni := some 12) (Nj := some 7) m8_f8 m8_f2 rfl rfl rfl rfl (two_of HT_.out zr) (by decide) (by decide) (fun K hK => ?_) (fun K hK => ?_)
    ·skip
     refine goes_ Try.func87 zr rfl #[.slice A0_1 l0_1.length c0_1] (by rfl) rfl rfl zm ?_
     with_reducible refine (impl_copyList.calls _ _ l0_1 t274 _ ?side1 ?side2 A4.out).mono ?_
     (case side1 => exact zs HR0_1 HB)
     (case side2 => exact HC0_1.out)
     rintro e w11 ⟨v275, rfl, ho0, hb⟩
     refine ⟨_, rfl, ?_⟩
     have HO276 := jA (Kd.R_lower ho0 (below_size (zb2 HB GE272 GE273)))
     replace BK272 := zB BK272 hb
     replace BK273 := zB BK273 hb
     replace HB := zS2 HB GE272 GE273 hb
     (try clear hb)
     (try clear hb2)
     (try clear hk)
     (try clear hi)
     (try clear ho0)
     obtain ⟨Ao12, co12, eo12⟩ := Kd.R_slice HO276.out
     (first | subst eo12 | (injection eo12 with f1_ f2_ f3_; have f4_ := f1_.symm; have f5_ := f3_.symm; clear f1_ f2_ f3_; subst f4_; subst f5_))
     refine hK.out _ _ ⟨(jD BK272.out 0).trans rfl, (jD BK272.out 1).trans rfl⟩ (fun hHeld => ?_)
     clear hK K
     refine norm_ (a' := ?_) ?_ ?_
     rotate_left
     ·show Act.put _ (some 12) _ = _
      simp only [Act.put, jC, jE, jF, i64_w, i32_w]
      rfl
     refine zp HT_ 5 13 m8_fc ?_
     refine one_ (i := 6) (N := some 7) m8_fe rfl rfl (one_of HT_.out zr) (by decide) (fun K hK => ?_)
     refine box_step ?hg (N := 7) ?hd (cs := #[.int .i64 0, .slice none 0 0]) (t := 28) ?hr ?_; (case hd => rfl); (case hg => rfl); (case hr => first | (go_simp; done) | (go_simp; rfl))
     intro gb277 hg w13 hbox hb
     replace HO276 := jA (Kd.R_below (zo HO276) hb)
     have BK277 := jA (hbox)
     have GW277 := zg2 hg HB GE272 GE273
     have GE277 := zg2 hg HB GE272 GE273
     replace HB := zS2 HB GE272 GE273 hb
     have NB272_277 := zn hg BK272
     have NB277_272 := zN hg BK272
     replace BK272 := zB BK272 hb
     have NB273_277 := zn hg BK273
     have NB277_273 := zN hg BK273
     replace BK273 := zB BK273 hb
     clear hb hbox hg
     refine hK.out _ _ ⟨(jD BK272.out 0).trans rfl, (jD BK272.out 1).trans rfl⟩ (fun hHeld => ?_)
     clear hK K
     refine norm_ (a' := ?_) ?_ ?_
     rotate_left
     ·show Act.put _ (some 7) _ = _
      simp only [Act.put, jC, jE, jF, i64_w, i32_w]
      rfl
     exact norm_ (by simp only [putAll, Act.put, jC, jE, jF]) (hCont (.slice Ao12 t274.length co12, gb277) _ ⟨hHeld, (zo HO276), (zk BK272), (zk BK273), (zk BK277), GW277.out, GE277.out, NB272_277.out, NB277_272.out, NB273_277.out, NB277_273.out, (zb3 HB GE272 GE273 GE277)⟩)
    ·skip
     refine box_step ?hg (N := 7) ?hd (cs := #[.int .i64 0, .slice none 0 0]) (t := 28) ?hr ?_; (case hd => rfl); (case hg => rfl); (case hr => first | (go_simp; done) | (go_simp; rfl))
     intro gb277 hg w11 hbox hb
     have BK277 := jA (hbox)
     have GW277 := zg2 hg HB GE272 GE273
     have GE277 := zg2 hg HB GE272 GE273
     replace HB := zS2 HB GE272 GE273 hb
     have NB272_277 := zn hg BK272
     have NB277_272 := zN hg BK272
     replace BK272 := zB BK272 hb
     have NB273_277 := zn hg BK273
     have NB277_273 := zN hg BK273
     replace BK273 := zB BK273 hb
     clear hb hbox hg
     refine hK.out _ _ ⟨(jD BK272.out 0).trans rfl, (jD BK272.out 1).trans rfl⟩ (fun hHeld => ?_)
     clear hK K
     refine norm_ (a' := ?_) ?_ ?_
     rotate_left
     ·show Act.put _ (some 7) _ = _
      simp only [Act.put, jC, jE, jF, i64_w, i32_w]
      rfl
     refine one_ (i := 4) (N := some 12) m8_fa rfl rfl (one_of HT_.out zr) (by decide) (fun K hK => ?_)
     refine goes_ Try.func87 zr rfl #[.slice A0_1 l0_1.length c0_1] (by rfl) rfl rfl zm ?_
     with_reducible refine (impl_copyList.calls _ _ l0_1 t274 _ ?side1 ?side2 A4.out).mono ?_
     (case side1 => exact zs HR0_1 HB)
     (case side2 => exact HC0_1.out)
     rintro e w12 ⟨v275, rfl, ho0, hb⟩
     refine ⟨_, rfl, ?_⟩
     have HO276 := jA (Kd.R_lower ho0 (below_size (zb3 HB GE272 GE273 GE277)))
     replace BK272 := zB BK272 hb
     replace BK273 := zB BK273 hb
     replace BK277 := zB BK277 hb
     replace HB := zS3 HB GE272 GE273 GE277 hb
     (try clear hb)
     (try clear hb2)
     (try clear hk)
     (try clear hi)
     (try clear ho0)
     obtain ⟨Ao13, co13, eo13⟩ := Kd.R_slice HO276.out
     (first | subst eo13 | (injection eo13 with f1_ f2_ f3_; have f4_ := f1_.symm; have f5_ := f3_.symm; clear f1_ f2_ f3_; subst f4_; subst f5_))
     refine hK.out _ _ ⟨(jD BK272.out 0).trans rfl, (jD BK272.out 1).trans rfl⟩ (fun hHeld => ?_)
     clear hK K
     refine norm_ (a' := ?_) ?_ ?_
     rotate_left
     ·show Act.put _ (some 12) _ = _
      simp only [Act.put, jC, jE, jF, i64_w, i32_w]
      rfl
     refine zp HT_ 5 13 m8_fe ?_
     exact norm_ (by simp only [putAll, Act.put, jC, jE, jF]) (hCont (.slice Ao13 t274.length co13, gb277) _ ⟨hHeld, (zo HO276), (zk BK272), (zk BK273), (zk BK277), GW277.out, GE277.out, NB272_277.out, NB277_272.out, NB273_277.out, NB277_273.out, (zb3 HB GE272 GE273 GE277)⟩)
   rintro ⟨v275, gb277⟩ w14 ⟨hS_, h0_, h1_, h2_, h3_, h4_, h5_, h6_, h7_, h8_, h9_, h10_⟩
   have HO276 : Aside0 (Kd.R (Kd.int .i64) 2 w14 w.heap.size (fun _ => True) v275 t274) := ⟨h0_⟩
   replace BK272 : Aside0 (w14.heap[gb272]? = some (.cells #[.int .i64 a0_0, .slice A0_1 l0_1.length c0_1] 28 (0, 0))) := ⟨h1_⟩
   replace BK273 : Aside0 (w14.heap[gb273]? = some (.cells #[.int .i64 0, .slice none 0 0] 28 (0, 0))) := ⟨h2_⟩
   have BK277 : Aside0 (w14.heap[gb277]? = some (.cells #[.int .i64 0, .slice none 0 0] 28 (0, 0))) := ⟨h3_⟩
   have GW277 : Aside0 (w.heap.size ≤ gb277) := ⟨h4_⟩
   have GE277 : Aside0 (w.heap.size ≤ gb277) := ⟨h5_⟩
   have NB272_277 : Aside0 (gb272 ≠ gb277) := ⟨h6_⟩
   have NB277_272 : Aside0 (gb277 ≠ gb272) := ⟨h7_⟩
   have NB273_277 : Aside0 (gb273 ≠ gb277) := ⟨h8_⟩
   have NB277_273 : Aside0 (gb277 ≠ gb273) := ⟨h9_⟩
   replace HB : Aside0 (Below w.heap.size w w14) := ⟨h10_⟩
   clear h0_ h1_ h2_ h3_ h4_ h5_ h6_ h7_ h8_ h9_ h10_
   have hHeld : w14.cell? ⟨gb272, 0, none⟩ = some (.int .i64 a0_0) ∧ w14.cell? ⟨gb272, 1, none⟩ = some (.slice A0_1 l0_1.length c0_1) := hS_
   obtain ⟨Ao15, co15, eo15⟩ := Kd.R_slice HO276.out
   (first | subst eo15 | (injection eo15 with f1_ f2_ f3_; have f4_ := f1_.symm; have f5_ := f3_.symm; clear f1_ f2_ f3_; subst f4_; subst f5_))
   refine norm_ (a' := ?_) ?_ ?_
   rotate_left
   ·simp only [putAll, Act.put, jC, jE, jF]
    rfl
   refine one_ (i := 7) (N := none) m8_ff rfl rfl (one_of HT_.out zr) (by decide) (fun K hK => ?_)
   have hs16 : w14.cell? ⟨gb277, 0, none⟩ = some (.int .i64 0) := (jD BK277.out 0).trans rfl
   have hfs16 := blk_frozen BK277.out 0
   have hns16_0 := NB272_277.out
   have hns16_1 := NB273_277.out
   have hms16_0 := NB277_272.out
   have hms16_1 := NB277_273.out
   have hs17 : w14.cell? ⟨gb277, 1, none⟩ = some (.slice none 0 0) := (jD BK277.out 1).trans rfl
   have hfs17 := blk_frozen BK277.out 1
   have hns17_0 := NB272_277.out
   have hns17_1 := NB273_277.out
   have hms17_0 := NB277_272.out
   have hms17_1 := NB277_273.out
   refine skip_ (w1 := ?_) (by rfl) rfl ?_ ?_
   rotate_left
   ·go_simp
    rfl
   refine hK.out _ _ ⟨((jL (p := ⟨gb277, _, none⟩) NB272_277.out _).trans (((jL (p := ⟨gb277, _, none⟩) NB272_277.out _).trans (hHeld.1)))), ((jL (p := ⟨gb277, _, none⟩) NB272_277.out _).trans (((jL (p := ⟨gb277, _, none⟩) NB272_277.out _).trans (hHeld.2))))⟩ (fun hHeld => ?_)
   clear hK K
   refine done_ (done_of HT_.out zr) ?_
   have n0_ : Aside0 (Kd.R (Kd.int .i64) 2 ((w14.setCell ⟨gb277, 0, none⟩ (.int .i64 a0_0)).setCell ⟨gb277, 1, none⟩ (.slice Ao15 t274.length co15)) w.heap.size (fun _ => True) (.slice Ao15 t274.length co15) t274) := ⟨zT HO276 BK277⟩
   have n1_ : Aside0 (((w14.setCell ⟨gb277, 0, none⟩ (.int .i64 a0_0)).setCell ⟨gb277, 1, none⟩ (.slice Ao15 t274.length co15)).heap[gb272]? = some (.cells #[.int .i64 a0_0, .slice A0_1 l0_1.length c0_1] 28 (0, 0))) := ⟨zQ1 BK272 NB272_277⟩
   have n2_ : Aside0 (((w14.setCell ⟨gb277, 0, none⟩ (.int .i64 a0_0)).setCell ⟨gb277, 1, none⟩ (.slice Ao15 t274.length co15)).heap[gb273]? = some (.cells #[.int .i64 0, .slice none 0 0] 28 (0, 0))) := ⟨zQ1 BK273 NB273_277⟩
   have n3_ : Aside0 (((w14.setCell ⟨gb277, 0, none⟩ (.int .i64 a0_0)).setCell ⟨gb277, 1, none⟩ (.slice Ao15 t274.length co15)).heap[gb277]? = some (.cells #[.int .i64 a0_0, .slice Ao15 t274.length co15] 28 (0, 0))) := ⟨zP0 BK277⟩
   have n4_ : Aside0 (Below w.heap.size w ((w14.setCell ⟨gb277, 0, none⟩ (.int .i64 a0_0)).setCell ⟨gb277, 1, none⟩ (.slice Ao15 t274.length co15))) := ⟨zb3 HB GE272 GE273 GE277⟩
   (try clear HO276)
   (try clear BK272)
   (try clear BK273)
   (try clear BK277)
   (try clear HB)
   generalize ((w14.setCell ⟨gb277, 0, none⟩ (.int .i64 a0_0)).setCell ⟨gb277, 1, none⟩ (.slice Ao15 t274.length co15)) = w18 at n0_ n1_ n2_ n3_ n4_ ⊢
   have HO276 := n0_
   have BK272 := n1_
   have BK273 := n2_
   have BK277 := n3_
   have HB := n4_
   clear n0_ n1_ n2_ n3_ n4_
   have hnb19 := NB277_272.out
   have hnc19 := NB272_277.out
   have hnb20 := NB277_273.out
   have hnc20 := NB273_277.out
   have hcz21 := zc2 BK277
   have p278 : 0 ≤ (a1 : Int) := jB za
   have q278 : a1 < (t274.length : Int) := jB za
   obtain ⟨ad278, e278, hx278_0⟩ := Kd.at_int (jP HO276.out).2.2 a1 p278 q278
   cases e278
   replace p278 := eq_true p278
   replace q278 := eq_true q278
   have p7 : 0 ≤ (a1 : Int) := jB za
   have q7 : (a1 : Int) < ((t274.length : Int) : Int) := jB za
   obtain ⟨go7, co7, eo7, gb7, gl7, cl7, HG7⟩ := Kd.R_form HO276.out (by omega)
   (first | cases eo7 | (injection eo7 with ea_ en_ ec_; (first | subst ea_ | (injection ea_ with ea_; subst ea_)); subst ec_; clear en_))
   have GB7 := jA gb7
   have GG7 := jA HG7
   clear gb7 gl7 HG7
   (first | simp only [add_plain] at hx278_0 | skip)
   obtain ⟨hx7_0, hf7_0⟩ := Kd.R_celln 0 HO276.out (a1 : Int) p7 q7
   replace p7 := eq_true p7
   replace q7 := eq_true q7
   obtain ⟨hy22_, hz22_⟩ := Kd.R_celln 0 HO276.out (a1 : Int) (jB za) (jB za)
   have HP22 := Kd.R_putg HO276.out (a1 : Int) (wrap64 ((rd t274 a1) + a2))
   try go_wp2_with (first | ((with_reducible refine gate_store (t := 2) (p := 21) rfl ?_); refine store_event (t := 2) (p := 21) (v := ?vo_w23) (w1 := (w18.setCell ⟨go7, (a1 : Int).toNat, none⟩ (.int .i64 (wrap64 ((rd t274 a1) + a2))))) ?hg ?ho ?hn ?hr ?_; (case ho => rfl); (case hg => rfl); (case hn => rfl); (case hr => first | (go_simp; done) | (go_simp; rfl)); intro w23 hw; have hg : w18.grownBy w23 (some go7) := (by rw [hw]; exact HP22.2); have hp_ : Kd.R (Kd.int .i64) 2 w23 w.heap.size (fun _ => True) (.slice (some ⟨go7, 0, none⟩) t274.length co15) y279 := (by rw [hw, Ny279.out]; exact HP22.1); clear HP22; replace BK272 := jA (blk_grown (g := gb272) (o := .cells #[.int .i64 a0_0, .slice A0_1 l0_1.length c0_1] 28 (0, 0)) (zk BK272) hg (Kd.R_ne HO276.out BK272.out (by decide))); replace BK273 := jA (blk_grown (g := gb273) (o := .cells #[.int .i64 0, .slice none 0 0] 28 (0, 0)) (zk BK273) hg (Kd.R_ne HO276.out BK273.out (by decide))); replace BK277 := jA (blk_grown (g := gb277) (o := .cells #[.int .i64 a0_0, .slice (some ⟨go7, 0, none⟩) t274.length co15] 28 (0, 0)) (zk BK277) hg (Kd.R_ne HO276.out BK277.out (by decide))); replace HO276 := jA (hp_); replace HB := jA ((by rw [hw]; exact below_set (HB.out) GB7.out : Below w.heap.size w w23)); clear hg hw hp_; have hcz24 := zc2 BK277; have hnb25 := NB273_272.out; have hnc25 := NB272_273.out; have hcz26 := zc2 BK273))
   refine bodyPost_ret (results_cell_row rfl _ _ gb273 28 #[.int .i64 a0_0, .slice (some ⟨go7, 0, none⟩) t274.length co15] (0, 0) _ rfl (zP0 BK273) Try.underlying28 rfl zr) rfl ?_
   exact ⟨_, ze, zT HO276 BK273, zb3 HB GE272 GE273 GE277⟩
  ·rw [if_neg c6] at H
   exact absurd H (by simp)
 ·rw [if_neg c5] at H
  exact absurd H (by simp)

end Go.Proofs.Ytdgglhfnlljmeaa.PFnExactMovePieces
