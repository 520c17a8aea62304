/- Functions and contracts that FnExactTakePieces reaches (14 of 15). -/
import Derived.Test.YtdgglhfnlljmeaaQFnExactTakePiecesx12
namespace Go.Proofs.Ytdgglhfnlljmeaa.PFnExactTakePieces
open Go.RowKit Go.Proofs.YtdgglhfnlljmeaaW.PrintWords Go.Proofs.YtdgglhfnlljmeaaW.PrintLast Go.Proofs.YtdgglhfnlljmeaaW.PrintMore
attribute [local go_sem] max2_int min2_int max_two min_two max_three min_three max_four min_four   -- for this text's walks alone
set_option linter.unusedVariables false
set_option linter.unusedSimpArgs false
open Go.Proofs.YtdgglhfnlljmeaaX

/-! ### impl_allWithin: function 85 -/
def impl_allWithin.l0 : Nat → Int → Int → List Int → Int → Int → Option (Bool)
 | 0, _, _, _, _, _ => none
 | k + 1, x1, x2, x9, x10, x11 => if x11 < x10 then (if 0 ≤ x11 then (if x11 < (x9.length : Int) then ((impl_within.f (rd x9 x11) x1 x2).bind fun t266 => (if t266 = true then (impl_allWithin.l0 k x1 x2 x9 x10 (wrap64 (x11 + 1))) else (some false))) else (none)) else (none)) else (some true)
def impl_allWithin.f (k : Nat) (l0 : List Int) (a1 : Int) (a2 : Int) : Option (Bool) := impl_allWithin.l0 k a1 a2 l0 (l0.length : Int) 0
theorem impl_allWithin.mono_l : ∀ k, (∀ y0 y1 y2 y3 y4, LeO (impl_allWithin.l0 k y0 y1 y2 y3 y4) (impl_allWithin.l0 (k + 1) y0 y1 y2 y3 y4))
 | 0 => fun _ _ _ _ _ r h => by simp [impl_allWithin.l0] at h
 | k + 1 => by
  have ih0 := impl_allWithin.mono_l k
  ·intro y0 y1 y2 y3 y4
   unfold impl_allWithin.l0
   repeat' first
   | (with_reducible exact ih0 _ _ _ _ _)
   | (with_reducible exact LeO.refl _)
   | (with_reducible exact LeO.none _)
   | (with_reducible refine LeO.ite ?_ ?_)
   | (with_reducible refine LeO.bind ?_ (fun _ => ?_))
   | exact ih0 _ _ _ _ _
   | exact LeO.none _
   | refine LeO.ite ?_ ?_
   | refine LeO.bind ?_ (fun _ => ?_)
theorem impl_allWithin.mono : ∀ a0 a1 a2 k, LeO (impl_allWithin.f k a0 a1 a2) (impl_allWithin.f (k + 1) a0 a1 a2) := by
 intro a0 a1 a2 k
 have ih0 := impl_allWithin.mono_l k
 unfold impl_allWithin.f
 repeat' first
   | (with_reducible exact ih0 _ _ _ _ _)
   | (with_reducible exact LeO.refl _)
   | (with_reducible exact LeO.none _)
   | (with_reducible refine LeO.ite ?_ ?_)
   | (with_reducible refine LeO.bind ?_ (fun _ => ?_))
   | exact ih0 _ _ _ _ _
   | exact LeO.none _
   | refine LeO.ite ?_ ?_
   | refine LeO.bind ?_ (fun _ => ?_)
set_option maxHeartbeats 8000000 in
set_option maxRecDepth 100000 in
theorem impl_allWithin.calls (k : Nat) (A0 : Option Addr) (c0 : Nat) (l0 : List Int) (a1 : Int) (a2 : Int) (r : Bool) (w : World) (hr0 : Kd.C (Kd.int .i64) w A0 l0.length l0) (hc0 : l0.length ≤ c0) (h : impl_allWithin.f k l0 a1 a2 = some r) :
  Calls Try.prog 85 #[.slice A0 l0.length c0, .int .i64 a1, .int .i64 a2] w fun e w' => e = .returned (.bool r) ∧ Drawn0 w w' := by
 have HR0 := jA hr0
 have HC0 := jA hc0
 clear hr0 hc0
 have H : (impl_allWithin.l0 k a1 a2 l0 (l0.length : Int) 0) = some r := h
 clear h
 have H' := jA H
 clear H
 go_enter Try.func85, Try.ntmps85
 go_wp2
 go_loopg [11] k (fun kq v11 w' => ∃ (x11_1 : Int), v11 = .int .i64 x11_1 ∧ Aside0 (impl_allWithin.l0 kq a1 a2 l0 (l0.length : Int) x11_1 = some r) ∧ Aside0 (kq ≤ k) ∧ Drawn0 w w')
 case atStart => exact ⟨(0), zz, H', ⟨Nat.le_refl _⟩, by repeat (first | exact Drawn0.refl _ | apply Drawn0.step)⟩
 case round =>
  clear H'
  try clear p2
  obtain ⟨x11_1, rfl, HA, HK1, ⟨m1, rfl⟩⟩ := hrel
  cases gk with
  | zero => exact absurd HA.out (by simp [impl_allWithin.l0])
  | succ k1 =>
   have H := HA.out
   clear HA
   simp only [impl_allWithin.l0] at H
   by_cases c4 : x11_1 < (l0.length : Int)
   ·rw [if_pos c4] at H
    have c4b0 : decide (x11_1 < (l0.length : Int)) = true := jN c4
    clear c4
    by_cases c5 : 0 ≤ x11_1
    ·rw [if_pos c5] at H
     have c5b0 : decide (0 ≤ x11_1) = true := jN c5
     clear c5
     by_cases c6 : x11_1 < (l0.length : Int)
     ·rw [if_pos c6] at H
      have c6b0 : decide (x11_1 < (l0.length : Int)) = true := jN c6
      clear c6
      replace H := jL.mp H
      obtain ⟨t266, A70, H⟩ := H
      replace H : (if t266 = true then (impl_allWithin.l0 k1 a1 a2 l0 (l0.length : Int) (wrap64 (x11_1 + 1))) else (some false)) = some r := H
      have A7 := jA A70
      clear A70
      by_cases c8 : t266 = true
      ·subst c8
       have H1 : (impl_allWithin.l0 k1 a1 a2 l0 (l0.length : Int) (wrap64 (x11_1 + 1))) = some r := by rw [if_pos rfl] at H; exact H
       clear H
       have H := H1
       clear H1
       have H' := jA H
       clear H
       have p265 : 0 ≤ (x11_1 : Int) := jE za
       have q265 : x11_1 < (l0.length : Int) := jE za
       obtain ⟨ad265, e265, hx265_0⟩ := Kd.at_int HR0.out x11_1 p265 q265
       cases e265
       replace p265 := eq_true p265
       replace q265 := eq_true q265
       go_wp2_with (first | ((with_reducible refine jS (f := 61) rfl ?_); refine goesL_ (some 18) rfl rfl Try.func61 zr rfl #[.int .i64 (rd l0 x11_1), .int .i64 a1, .int .i64 a2] rfl zm ?_; (with_reducible refine (impl_within.calls (rd l0 x11_1) a1 a2 true _ A7.out).mono ?_); rintro e w' ⟨rfl, ⟨nd, rfl⟩⟩; refine ⟨_, rfl, ?_⟩))
       go_roundg k1
       case measure => have := HK1.out; omega
       case rel => exact ⟨(wrap64 (x11_1 + 1)), zz, H', ⟨by have := HK1.out; omega⟩, by repeat (first | exact Drawn0.refl _ | apply Drawn0.step)⟩
      ·replace c8 := Bool.eq_false_iff.mpr c8
       subst c8
       have H1 : (some false) = some r := by rw [if_neg (show ¬ (false = true) by decide)] at H; exact H
       clear H
       have H := H1
       clear H1
       obtain rfl := jH H
       have p265 : 0 ≤ (x11_1 : Int) := jE za
       have q265 : x11_1 < (l0.length : Int) := jE za
       obtain ⟨ad265, e265, hx265_0⟩ := Kd.at_int HR0.out x11_1 p265 q265
       cases e265
       replace p265 := eq_true p265
       replace q265 := eq_true q265
       go_wp2_with (first | ((with_reducible refine jS (f := 61) rfl ?_); refine goesL_ (some 18) rfl rfl Try.func61 zr rfl #[.int .i64 (rd l0 x11_1), .int .i64 a1, .int .i64 a2] rfl zm ?_; (with_reducible refine (impl_within.calls (rd l0 x11_1) a1 a2 false _ A7.out).mono ?_); rintro e w' ⟨rfl, ⟨nd, rfl⟩⟩; refine ⟨_, rfl, ?_⟩))
       go_ret
       exact ⟨by first | rfl | (simp; done) | (simp [*]; done), by repeat (first | exact Drawn0.refl _ | apply Drawn0.step)⟩
     ·rw [if_neg c6] at H
      exact absurd H (by simp)
    ·rw [if_neg c5] at H
     exact absurd H (by simp)
   ·rw [if_neg c4] at H
    have c4b0 : decide (x11_1 < (l0.length : Int)) = false := jU c4
    clear c4
    obtain rfl := jH H
    go_wp2
    go_ret
    exact ⟨by first | rfl | (simp; done) | (simp [*]; done), by repeat (first | exact Drawn0.refl _ | apply Drawn0.step)⟩

/-! ### impl_areCounts: function 62 -/
def impl_areCounts.f (k : Nat) (l0 : List (S65)) (l1 : List Int) : Option (Bool) := if (l1.length : Int) = (l0.length : Int) then ((impl_allWithin.f k l1 0 1000).bind fun t267 => (some t267)) else (some false)
theorem impl_areCounts.mono : ∀ a0 a1 k, LeO (impl_areCounts.f k a0 a1) (impl_areCounts.f (k + 1) a0 a1) := by
 intro a0 a1 k
 unfold impl_areCounts.f
 repeat' first
   | (with_reducible exact impl_allWithin.mono _ _ _ _)
   | (with_reducible exact LeO.refl _)
   | (with_reducible exact LeO.none _)
   | (with_reducible refine LeO.ite ?_ ?_)
   | (with_reducible refine LeO.bind ?_ (fun _ => ?_))
   | exact impl_allWithin.mono _ _ _ _
   | exact LeO.none _
   | refine LeO.ite ?_ ?_
   | refine LeO.bind ?_ (fun _ => ?_)
set_option maxHeartbeats 8000000 in
set_option maxRecDepth 100000 in
theorem impl_areCounts.calls (k : Nat) (A0 : Option Addr) (c0 : Nat) (l0 : List (S65)) (A1 : Option Addr) (c1 : Nat) (l1 : List Int) (r : Bool) (w : World) (hr0 : Kd.C k65 w A0 l0.length l0) (hc0 : l0.length ≤ c0) (hr1 : Kd.C (Kd.int .i64) w A1 l1.length l1) (hc1 : l1.length ≤ c1) (h : impl_areCounts.f k l0 l1 = some r) :
  Calls Try.prog 62 #[.slice A0 l0.length c0, .slice A1 l1.length c1] w fun e w' => e = .returned (.bool r) ∧ Drawn0 w w' := by
 have HR0 := jA hr0
 have HC0 := jA hc0
 clear hr0 hc0
 have HR1 := jA hr1
 have HC1 := jA hc1
 clear hr1 hc1
 have H : (if (l1.length : Int) = (l0.length : Int) then ((impl_allWithin.f k l1 0 1000).bind fun t267 => (some t267)) else (some false)) = some r := h
 clear h
 by_cases c3 : (l1.length : Int) = (l0.length : Int)
 ·rw [if_pos c3] at H
  have c3b0 : ((l1.length : Int) == (l0.length : Int)) = true := beq_iff_eq.mpr c3
  have c3b1 : ((l1.length : Int) != (l0.length : Int)) = false := bne_eq_false_iff_eq.mpr c3
  have c3b2 : (l1.length == l0.length) = true := by first | simpa using c3 | (simp at c3 ⊢; omega)
  clear c3
  replace H := jL.mp H
  obtain ⟨t267, A40, H⟩ := H
  replace H : (some t267) = some r := H
  have A4 := jA A40
  clear A40
  obtain rfl := jH H
  go_enter Try.func62, Try.ntmps62
  go_wp2_with (first | (go_at_call 85; (with_reducible refine (impl_allWithin.calls k _ _ l1 0 1000 t267 _ ?side1 ?side2 A4.out).mono ?_); (case side1 => repeat (first | exact HR1.out | (with_reducible refine Kd.C_alloc ?_ _) | (with_reducible refine Kd.C_drewN ?_ _) | (with_reducible refine Kd.C_drew ?_))); (case side2 => exact HC1.out); rintro e w' ⟨rfl, ⟨nd, rfl⟩⟩))
  go_ret
  exact ⟨by first | rfl | (simp; done) | (simp [*]; done), by repeat (first | exact Drawn0.refl _ | apply Drawn0.step)⟩
 ·rw [if_neg c3] at H
  have c3b0 : ((l1.length : Int) == (l0.length : Int)) = false := beq_eq_false_iff_ne.mpr c3
  have c3b1 : ((l1.length : Int) != (l0.length : Int)) = true := bne_iff_ne.mpr c3
  have c3b2 : (l1.length == l0.length) = false := by first | simpa using c3 | (simp at c3 ⊢; omega)
  obtain rfl := jH H
  go_enter Try.func62, Try.ntmps62
  go_wp2
  go_ret
  exact ⟨by first | rfl | (simp; done) | (simp [*]; done), by repeat (first | exact Drawn0.refl _ | apply Drawn0.step)⟩

/-! ### impl_IsMagazine: function 26 -/
def impl_IsMagazine.f (k : Nat) (l0 : List (S65)) (a1_0 : Int) (l1_1 : List Int) : Option (Bool) := (impl_AreArticles.f k l0).bind fun t269 => (if t269 = true then ((impl_within.f a1_0 0 1000000000).bind fun t270 => (if t270 = true then ((impl_areCounts.f k l0 l1_1).bind fun t271 => (some t271)) else (some false))) else (some false))
theorem impl_IsMagazine.mono : ∀ a0 a1 a2 k, LeO (impl_IsMagazine.f k a0 a1 a2) (impl_IsMagazine.f (k + 1) a0 a1 a2) := by
 intro a0 a1 a2 k
 unfold impl_IsMagazine.f
 repeat' first
   | (with_reducible exact impl_AreArticles.mono _ _)
   | (with_reducible exact impl_areCounts.mono _ _ _)
   | (with_reducible exact LeO.refl _)
   | (with_reducible exact LeO.none _)
   | (with_reducible refine LeO.ite ?_ ?_)
   | (with_reducible refine LeO.bind ?_ (fun _ => ?_))
   | exact impl_AreArticles.mono _ _
   | exact impl_areCounts.mono _ _ _
   | exact LeO.none _
   | refine LeO.ite ?_ ?_
   | refine LeO.bind ?_ (fun _ => ?_)
set_option maxHeartbeats 8000000 in
set_option maxRecDepth 100000 in
theorem impl_IsMagazine.calls (k : Nat) (A0 : Option Addr) (c0 : Nat) (l0 : List (S65)) (a1_0 : Int) (A1_1 : Option Addr) (c1_1 : Nat) (l1_1 : List Int) (r : Bool) (w : World) (hr0 : Kd.C k65 w A0 l0.length l0) (hc0 : l0.length ≤ c0) (hr1_1 : Kd.C (Kd.int .i64) w A1_1 l1_1.length l1_1) (hc1_1 : l1_1.length ≤ c1_1) (h : impl_IsMagazine.f k l0 a1_0 l1_1 = some r) :
  Calls Try.prog 26 #[.slice A0 l0.length c0, .agg #[.int .i64 a1_0, .slice A1_1 l1_1.length c1_1]] w fun e w' => e = .returned (.bool r) ∧ Below w.heap.size w w' := by
 have hu28 := Try.underlying28
 have HR0 := jA hr0
 have HC0 := jA hc0
 clear hr0 hc0
 have HR1_1 := jA hr1_1
 have HC1_1 := jA hc1_1
 clear hr1_1 hc1_1
 have HB := jA (Below.refl w.heap.size w)
 have H : ((impl_AreArticles.f k l0).bind fun t269 => (if t269 = true then ((impl_within.f a1_0 0 1000000000).bind fun t270 => (if t270 = true then ((impl_areCounts.f k l0 l1_1).bind fun t271 => (some t271)) else (some false))) else (some false))) = some r := h
 clear h
 replace H := jL.mp H
 obtain ⟨t269, A30, H⟩ := H
 replace H : (if t269 = true then ((impl_within.f a1_0 0 1000000000).bind fun t270 => (if t270 = true then ((impl_areCounts.f k l0 l1_1).bind fun t271 => (some t271)) else (some false))) else (some false)) = some r := H
 have A3 := jA A30
 clear A30
 by_cases c4 : t269 = true
 ·subst c4
  have H1 : ((impl_within.f a1_0 0 1000000000).bind fun t270 => (if t270 = true then ((impl_areCounts.f k l0 l1_1).bind fun t271 => (some t271)) else (some false))) = some r := by rw [if_pos rfl] at H; exact H
  clear H
  have H := H1
  clear H1
  replace H := jL.mp H
  obtain ⟨t270, A50, H⟩ := H
  replace H : (if t270 = true then ((impl_areCounts.f k l0 l1_1).bind fun t271 => (some t271)) else (some false)) = some r := H
  have A5 := jA A50
  clear A50
  by_cases c6 : t270 = true
  ·subst c6
   have H1 : ((impl_areCounts.f k l0 l1_1).bind fun t271 => (some t271)) = some r := by rw [if_pos rfl] at H; exact H
   clear H
   have H := H1
   clear H1
   replace H := jL.mp H
   obtain ⟨t271, A70, H⟩ := H
   replace H : (some t271) = some r := H
   have A7 := jA A70
   clear A70
   obtain rfl := jH H
   go_enter Try.func26, Try.ntmps26
   go_wp2_with (first | ((with_reducible refine jT (N := 3) rfl ?_); refine jR ?hg (N := 3) ?hd (cs := #[.int .i64 a1_0, .slice A1_1 l1_1.length c1_1]) (t := 28) ?hr ?_; (case hd => rfl); (case hg => rfl); (case hr => first | (go_simp; done) | (go_simp; rfl)); intro gb268 hg w8 hbox hb; have n0_ := jA (jG (zb0 HB) hb); have n1_ := jA (hbox); have n2_ := jA ((by rw [hg]; exact (jF (zb0 HB)) : w.heap.size ≤ gb268)); have n3_ := jA ((by rw [hg]; exact (jF (zb0 HB)) : w.heap.size ≤ gb268)); clear HB; have HB := n0_; have BK268 := n1_; have GW268 := n2_; have GE268 := n3_; clear n0_ n1_ n2_ n3_; clear hb hbox hg) | ((with_reducible refine jS (f := 60) rfl ?_); refine goesL_ (some 6) rfl rfl Try.func60 zr rfl #[.slice A0 l0.length c0] rfl zm ?_; (with_reducible refine (impl_AreArticles.calls k _ _ l0 true _ ?side1 ?side2 A3.out).mono ?_); (case side1 => exact zs HR0 HB); (case side2 => exact HC0.out); rintro e w9 ⟨rfl, hb⟩; refine ⟨_, rfl, ?_⟩; have n0_ := jA (jO (g := gb268) (o := .cells #[.int .i64 a1_0, .slice A1_1 l1_1.length c1_1] 28 (0, 0)) (zk BK268) hb); have n1_ := jA (jG (zb1 HB GE268) hb); clear BK268; clear HB; have BK268 := n0_; have HB := n1_; clear n0_ n1_; (try clear hb); (try clear hb2); (try clear hk); (try clear hi); have hcz10_0 : w9.cell? ⟨gb268, 0, none⟩ = some (.int .i64 a1_0) := (jD BK268.out 0).trans rfl; have hcz10_1 : w9.cell? ⟨gb268, 1, none⟩ = some (.slice A1_1 l1_1.length c1_1) := (jD BK268.out 1).trans rfl; have hfz10_0 := jC BK268.out 0; have hfz10_1 := jC BK268.out 1) | (go_at_call 61; (with_reducible refine (impl_within.calls a1_0 0 1000000000 true _ A5.out).mono ?_); rintro e w' ⟨rfl, ⟨nd, rfl⟩⟩) | (go_at_call 62; (with_reducible refine (impl_areCounts.calls k _ _ l0 _ _ l1_1 t271 _ ?side1 ?side2 ?side3 ?side4 A7.out).mono ?_); (case side1 => repeat (first | exact HR0.out | exact (Kd.C_below HR0.out (zb1 HB GE268)) | (with_reducible refine Kd.C_alloc ?_ _) | (with_reducible refine Kd.C_drewN ?_ _) | (with_reducible refine Kd.C_drew ?_))); (case side2 => exact HC0.out); (case side3 => repeat (first | exact HR1_1.out | exact (Kd.C_below HR1_1.out (zb1 HB GE268)) | (with_reducible refine Kd.C_alloc ?_ _) | (with_reducible refine Kd.C_drewN ?_ _) | (with_reducible refine Kd.C_drew ?_))); (case side4 => exact HC1_1.out); rintro e w' ⟨rfl, ⟨nd, rfl⟩⟩))
   go_ret
   exact ⟨by first | rfl | (simp [errW_none, errW_some] <;> rfl) | (simp [*, errW_none, errW_some] <;> rfl), zb1 HB GE268⟩
  ·replace c6 := Bool.eq_false_iff.mpr c6
   subst c6
   have H1 : (some false) = some r := by rw [if_neg (show ¬ (false = true) by decide)] at H; exact H
   clear H
   have H := H1
   clear H1
   obtain rfl := jH H
   go_enter Try.func26, Try.ntmps26
   go_wp2_with (first | ((with_reducible refine jT (N := 3) rfl ?_); refine jR ?hg (N := 3) ?hd (cs := #[.int .i64 a1_0, .slice A1_1 l1_1.length c1_1]) (t := 28) ?hr ?_; (case hd => rfl); (case hg => rfl); (case hr => first | (go_simp; done) | (go_simp; rfl)); intro gb268 hg w11 hbox hb; have n0_ := jA (jG (zb0 HB) hb); have n1_ := jA (hbox); have n2_ := jA ((by rw [hg]; exact (jF (zb0 HB)) : w.heap.size ≤ gb268)); have n3_ := jA ((by rw [hg]; exact (jF (zb0 HB)) : w.heap.size ≤ gb268)); clear HB; have HB := n0_; have BK268 := n1_; have GW268 := n2_; have GE268 := n3_; clear n0_ n1_ n2_ n3_; clear hb hbox hg) | ((with_reducible refine jS (f := 60) rfl ?_); refine goesL_ (some 6) rfl rfl Try.func60 zr rfl #[.slice A0 l0.length c0] rfl zm ?_; (with_reducible refine (impl_AreArticles.calls k _ _ l0 true _ ?side1 ?side2 A3.out).mono ?_); (case side1 => exact zs HR0 HB); (case side2 => exact HC0.out); rintro e w12 ⟨rfl, hb⟩; refine ⟨_, rfl, ?_⟩; have n0_ := jA (jO (g := gb268) (o := .cells #[.int .i64 a1_0, .slice A1_1 l1_1.length c1_1] 28 (0, 0)) (zk BK268) hb); have n1_ := jA (jG (zb1 HB GE268) hb); clear BK268; clear HB; have BK268 := n0_; have HB := n1_; clear n0_ n1_; (try clear hb); (try clear hb2); (try clear hk); (try clear hi); have hcz13_0 : w12.cell? ⟨gb268, 0, none⟩ = some (.int .i64 a1_0) := (jD BK268.out 0).trans rfl; have hcz13_1 : w12.cell? ⟨gb268, 1, none⟩ = some (.slice A1_1 l1_1.length c1_1) := (jD BK268.out 1).trans rfl; have hfz13_0 := jC BK268.out 0; have hfz13_1 := jC BK268.out 1) | (go_at_call 61; (with_reducible refine (impl_within.calls a1_0 0 1000000000 false _ A5.out).mono ?_); rintro e w' ⟨rfl, ⟨nd, rfl⟩⟩))
   go_ret
   exact ⟨by first | rfl | (simp [errW_none, errW_some] <;> rfl) | (simp [*, errW_none, errW_some] <;> rfl), zb1 HB GE268⟩
 ·replace c4 := Bool.eq_false_iff.mpr c4
  subst c4
  have H1 : (some false) = some r := by rw [if_neg (show ¬ (false = true) by decide)] at H; exact H
  clear H
  have H := H1
  clear H1
  obtain rfl := jH H
  go_enter Try.func26, Try.ntmps26
  go_wp2_with (first | ((with_reducible refine jT (N := 3) rfl ?_); refine jR ?hg (N := 3) ?hd (cs := #[.int .i64 a1_0, .slice A1_1 l1_1.length c1_1]) (t := 28) ?hr ?_; (case hd => rfl); (case hg => rfl); (case hr => first | (go_simp; done) | (go_simp; rfl)); intro gb268 hg w14 hbox hb; have n0_ := jA (jG (zb0 HB) hb); have n1_ := jA (hbox); have n2_ := jA ((by rw [hg]; exact (jF (zb0 HB)) : w.heap.size ≤ gb268)); have n3_ := jA ((by rw [hg]; exact (jF (zb0 HB)) : w.heap.size ≤ gb268)); clear HB; have HB := n0_; have BK268 := n1_; have GW268 := n2_; have GE268 := n3_; clear n0_ n1_ n2_ n3_; clear hb hbox hg) | ((with_reducible refine jS (f := 60) rfl ?_); refine goesL_ (some 6) rfl rfl Try.func60 zr rfl #[.slice A0 l0.length c0] rfl zm ?_; (with_reducible refine (impl_AreArticles.calls k _ _ l0 false _ ?side1 ?side2 A3.out).mono ?_); (case side1 => exact zs HR0 HB); (case side2 => exact HC0.out); rintro e w15 ⟨rfl, hb⟩; refine ⟨_, rfl, ?_⟩; have n0_ := jA (jO (g := gb268) (o := .cells #[.int .i64 a1_0, .slice A1_1 l1_1.length c1_1] 28 (0, 0)) (zk BK268) hb); have n1_ := jA (jG (zb1 HB GE268) hb); clear BK268; clear HB; have BK268 := n0_; have HB := n1_; clear n0_ n1_; (try clear hb); (try clear hb2); (try clear hk); (try clear hi)))
  go_ret
  exact ⟨by first | rfl | (simp [errW_none, errW_some] <;> rfl) | (simp [*, errW_none, errW_some] <;> rfl), zb1 HB GE268⟩

/-! ### impl_articleOf: function 70 -/
def impl_articleOf.l0 : Nat → ByteArray → List (S65) → Int → Int → Option (Int)
 | 0, _, _, _, _ => none
 | k + 1, x1, x7, x8, x9 => if x9 < x8 then (if 0 ≤ x9 then (if x9 < (x7.length : Int) then (if ((rd_T65 x7 x9).f0).toList = x1.toList then (some x9) else (impl_articleOf.l0 k x1 x7 x8 (wrap64 (x9 + 1)))) else (none)) else (none)) else (some (-1))
def impl_articleOf.f (k : Nat) (l0 : List (S65)) (a1 : ByteArray) : Option (Int) := impl_articleOf.l0 k a1 l0 (l0.length : Int) 0
theorem impl_articleOf.mono_l : ∀ k, (∀ y0 y1 y2 y3, LeO (impl_articleOf.l0 k y0 y1 y2 y3) (impl_articleOf.l0 (k + 1) y0 y1 y2 y3))
 | 0 => fun _ _ _ _ r h => by simp [impl_articleOf.l0] at h
 | k + 1 => by
  have ih0 := impl_articleOf.mono_l k
  ·intro y0 y1 y2 y3
   unfold impl_articleOf.l0
   repeat' first
   | (with_reducible exact ih0 _ _ _ _)
   | (with_reducible exact LeO.refl _)
   | (with_reducible exact LeO.none _)
   | (with_reducible refine LeO.ite ?_ ?_)
   | (with_reducible refine LeO.bind ?_ (fun _ => ?_))
   | exact ih0 _ _ _ _
   | exact LeO.none _
   | refine LeO.ite ?_ ?_
   | refine LeO.bind ?_ (fun _ => ?_)
theorem impl_articleOf.mono : ∀ a0 a1 k, LeO (impl_articleOf.f k a0 a1) (impl_articleOf.f (k + 1) a0 a1) := by
 intro a0 a1 k
 have ih0 := impl_articleOf.mono_l k
 unfold impl_articleOf.f
 repeat' first
   | (with_reducible exact ih0 _ _ _ _)
   | (with_reducible exact LeO.refl _)
   | (with_reducible exact LeO.none _)
   | (with_reducible refine LeO.ite ?_ ?_)
   | (with_reducible refine LeO.bind ?_ (fun _ => ?_))
   | exact ih0 _ _ _ _
   | exact LeO.none _
   | refine LeO.ite ?_ ?_
   | refine LeO.bind ?_ (fun _ => ?_)
set_option maxHeartbeats 8000000 in
set_option maxRecDepth 100000 in
theorem impl_articleOf.calls (k : Nat) (A0 : Option Addr) (c0 : Nat) (l0 : List (S65)) (a1 : ByteArray) (r : Int) (w : World) (hr0 : Kd.C k65 w A0 l0.length l0) (hc0 : l0.length ≤ c0) (h : impl_articleOf.f k l0 a1 = some r) :
  Calls Try.prog 70 #[.slice A0 l0.length c0, .string a1] w fun e w' => e = .returned (.int .i64 r) ∧ Below w.heap.size w w' := by
 have hu65 := Try.underlying65
 have HR0 := jA hr0
 have HC0 := jA hc0
 clear hr0 hc0
 have HB := jA (Below.refl w.heap.size w)
 have H : (impl_articleOf.l0 k a1 l0 (l0.length : Int) 0) = some r := h
 clear h
 have H' := jA H
 clear H
 go_enter Try.func70, Try.ntmps70
 go_wp2
 go_loopg [9] k (fun kq v9 w' => ∃ (x9_1 : Int), v9 = .int .i64 x9_1 ∧ Aside0 (impl_articleOf.l0 kq a1 l0 (l0.length : Int) x9_1 = some r) ∧ Aside0 (kq ≤ k) ∧ Aside0 (Below w.heap.size w w'))
 case atStart => exact ⟨(0), zz, H', ⟨Nat.le_refl _⟩, ⟨zb0 HB⟩⟩
 case round =>
  clear H'
  try clear p2
  obtain ⟨x9_1, rfl, HA, HK1, HB⟩ := hrel
  cases gk with
  | zero => exact absurd HA.out (by simp [impl_articleOf.l0])
  | succ k1 =>
   have H := HA.out
   clear HA
   simp only [impl_articleOf.l0] at H
   by_cases c3 : x9_1 < (l0.length : Int)
   ·rw [if_pos c3] at H
    have c3b0 : decide (x9_1 < (l0.length : Int)) = true := jN c3
    clear c3
    by_cases c4 : 0 ≤ x9_1
    ·rw [if_pos c4] at H
     have c4b0 : decide (0 ≤ x9_1) = true := jN c4
     clear c4
     by_cases c5 : x9_1 < (l0.length : Int)
     ·rw [if_pos c5] at H
      have c5b0 : decide (x9_1 < (l0.length : Int)) = true := jN c5
      clear c5
      by_cases c6 : ((rd_T65 l0 x9_1).f0).toList = a1.toList
      ·rw [if_pos c6] at H
       have c6b0 : (((rd_T65 l0 x9_1).f0).toList == a1.toList) = true := beq_iff_eq.mpr c6
       have c6b1 : (((rd_T65 l0 x9_1).f0).toList != a1.toList) = false := bne_eq_false_iff_eq.mpr c6
       clear c6
       obtain rfl := jH H
       have p272 : 0 ≤ (x9_1 : Int) := jE za
       have q272 : x9_1 < (l0.length : Int) := jE za
       obtain ⟨ad272, e272, hx272_0, hx272_1, hx272_2, hx272_3, hx272_4, hx272_5, hx272_6, hx272_7, hx272_8⟩ := at_T65 HR0.out x9_1 p272 q272
       cases e272
       replace hx272_0 := (HB.out.cell (jB w _ hx272_0)).trans hx272_0
       replace hx272_1 := (HB.out.cell (jB w _ hx272_1)).trans hx272_1
       replace hx272_2 := (HB.out.cell (jB w _ hx272_2)).trans hx272_2
       replace hx272_3 := (HB.out.cell (jB w _ hx272_3)).trans hx272_3
       replace hx272_4 := (HB.out.cell (jB w _ hx272_4)).trans hx272_4
       replace hx272_5 := (HB.out.cell (jB w _ hx272_5)).trans hx272_5
       replace hx272_6 := (HB.out.cell (jB w _ hx272_6)).trans hx272_6
       replace hx272_7 := (HB.out.cell (jB w _ hx272_7)).trans hx272_7
       replace hx272_8 := (HB.out.cell (jB w _ hx272_8)).trans hx272_8
       replace p272 := eq_true p272
       replace q272 := eq_true q272
       go_wp2_with (first | ((with_reducible refine jT (N := 6) rfl ?_); refine jR ?hg (N := 6) ?hd (cs := #[.string (⟨#[]⟩ : ByteArray), .int .i64 0, .int .i64 0, .int .i64 0, .int .i64 0, .int .i64 0, .int .i64 0, .int .i64 0, .int .i64 0]) (t := 65) ?hr ?_; (case hd => rfl); (case hg => rfl); (case hr => first | (go_simp; done) | (go_simp; rfl)); intro gb273 hg w7 hbox hb; have n0_ := jA (jG (zb0 HB) hb); have n1_ := jA (hbox); have n2_ := jA ((by rw [hg]; exact (jF (zb0 HB)) : w.heap.size ≤ gb273)); have n3_ := jA ((by rw [hg]; exact (jF (zb0 HB)) : w.heap.size ≤ gb273)); clear HB; have HB := n0_; have BK273 := n1_; have GW273 := n2_; have GE273 := n3_; clear n0_ n1_ n2_ n3_; clear hb hbox hg; have hcz8_0 : w7.cell? ⟨gb273, 0, none⟩ = some (.string (⟨#[]⟩ : ByteArray)) := (jD BK273.out 0).trans rfl; have hcz8_1 : w7.cell? ⟨gb273, 1, none⟩ = some (.int .i64 0) := (jD BK273.out 1).trans rfl; have hcz8_2 : w7.cell? ⟨gb273, 2, none⟩ = some (.int .i64 0) := (jD BK273.out 2).trans rfl; have hcz8_3 : w7.cell? ⟨gb273, 3, none⟩ = some (.int .i64 0) := (jD BK273.out 3).trans rfl; have hcz8_4 : w7.cell? ⟨gb273, 4, none⟩ = some (.int .i64 0) := (jD BK273.out 4).trans rfl; have hcz8_5 : w7.cell? ⟨gb273, 5, none⟩ = some (.int .i64 0) := (jD BK273.out 5).trans rfl; have hcz8_6 : w7.cell? ⟨gb273, 6, none⟩ = some (.int .i64 0) := (jD BK273.out 6).trans rfl; have hcz8_7 : w7.cell? ⟨gb273, 7, none⟩ = some (.int .i64 0) := (jD BK273.out 7).trans rfl; have hcz8_8 : w7.cell? ⟨gb273, 8, none⟩ = some (.int .i64 0) := (jD BK273.out 8).trans rfl; have hfz8_0 := jC BK273.out 0; have hfz8_1 := jC BK273.out 1; have hfz8_2 := jC BK273.out 2; have hfz8_3 := jC BK273.out 3; have hfz8_4 := jC BK273.out 4; have hfz8_5 := jC BK273.out 5; have hfz8_6 := jC BK273.out 6; have hfz8_7 := jC BK273.out 7; have hfz8_8 := jC BK273.out 8))
       go_ret
       exact ⟨by first | rfl | (simp [errW_none, errW_some] <;> rfl) | (simp [*, errW_none, errW_some] <;> rfl), zb1 HB GE273⟩
      ·rw [if_neg c6] at H
       have c6b0 : (((rd_T65 l0 x9_1).f0).toList == a1.toList) = false := beq_eq_false_iff_ne.mpr c6
       have c6b1 : (((rd_T65 l0 x9_1).f0).toList != a1.toList) = true := bne_iff_ne.mpr c6
       have H' := jA H
       clear H
       have p272 : 0 ≤ (x9_1 : Int) := jE za
       have q272 : x9_1 < (l0.length : Int) := jE za
       obtain ⟨ad272, e272, hx272_0, hx272_1, hx272_2, hx272_3, hx272_4, hx272_5, hx272_6, hx272_7, hx272_8⟩ := at_T65 HR0.out x9_1 p272 q272
       cases e272
       replace hx272_0 := (HB.out.cell (jB w _ hx272_0)).trans hx272_0
       replace hx272_1 := (HB.out.cell (jB w _ hx272_1)).trans hx272_1
       replace hx272_2 := (HB.out.cell (jB w _ hx272_2)).trans hx272_2
       replace hx272_3 := (HB.out.cell (jB w _ hx272_3)).trans hx272_3
       replace hx272_4 := (HB.out.cell (jB w _ hx272_4)).trans hx272_4
       replace hx272_5 := (HB.out.cell (jB w _ hx272_5)).trans hx272_5
       replace hx272_6 := (HB.out.cell (jB w _ hx272_6)).trans hx272_6
       replace hx272_7 := (HB.out.cell (jB w _ hx272_7)).trans hx272_7
       replace hx272_8 := (HB.out.cell (jB w _ hx272_8)).trans hx272_8
       replace p272 := eq_true p272
       replace q272 := eq_true q272
       go_wp2_with (first | ((with_reducible refine jT (N := 6) rfl ?_); refine jR ?hg (N := 6) ?hd (cs := #[.string (⟨#[]⟩ : ByteArray), .int .i64 0, .int .i64 0, .int .i64 0, .int .i64 0, .int .i64 0, .int .i64 0, .int .i64 0, .int .i64 0]) (t := 65) ?hr ?_; (case hd => rfl); (case hg => rfl); (case hr => first | (go_simp; done) | (go_simp; rfl)); intro gb273 hg w9 hbox hb; have n0_ := jA (jG (zb0 HB) hb); have n1_ := jA (hbox); have n2_ := jA ((by rw [hg]; exact (jF (zb0 HB)) : w.heap.size ≤ gb273)); have n3_ := jA ((by rw [hg]; exact (jF (zb0 HB)) : w.heap.size ≤ gb273)); clear HB; have HB := n0_; have BK273 := n1_; have GW273 := n2_; have GE273 := n3_; clear n0_ n1_ n2_ n3_; clear hb hbox hg; have hcz10_0 : w9.cell? ⟨gb273, 0, none⟩ = some (.string (⟨#[]⟩ : ByteArray)) := (jD BK273.out 0).trans rfl; have hcz10_1 : w9.cell? ⟨gb273, 1, none⟩ = some (.int .i64 0) := (jD BK273.out 1).trans rfl; have hcz10_2 : w9.cell? ⟨gb273, 2, none⟩ = some (.int .i64 0) := (jD BK273.out 2).trans rfl; have hcz10_3 : w9.cell? ⟨gb273, 3, none⟩ = some (.int .i64 0) := (jD BK273.out 3).trans rfl; have hcz10_4 : w9.cell? ⟨gb273, 4, none⟩ = some (.int .i64 0) := (jD BK273.out 4).trans rfl; have hcz10_5 : w9.cell? ⟨gb273, 5, none⟩ = some (.int .i64 0) := (jD BK273.out 5).trans rfl; have hcz10_6 : w9.cell? ⟨gb273, 6, none⟩ = some (.int .i64 0) := (jD BK273.out 6).trans rfl; have hcz10_7 : w9.cell? ⟨gb273, 7, none⟩ = some (.int .i64 0) := (jD BK273.out 7).trans rfl; have hcz10_8 : w9.cell? ⟨gb273, 8, none⟩ = some (.int .i64 0) := (jD BK273.out 8).trans rfl; have hfz10_0 := jC BK273.out 0; have hfz10_1 := jC BK273.out 1; have hfz10_2 := jC BK273.out 2; have hfz10_3 := jC BK273.out 3; have hfz10_4 := jC BK273.out 4; have hfz10_5 := jC BK273.out 5; have hfz10_6 := jC BK273.out 6; have hfz10_7 := jC BK273.out 7; have hfz10_8 := jC BK273.out 8))
       go_roundg k1
       case measure => have := HK1.out; omega
       case rel => exact ⟨(wrap64 (x9_1 + 1)), zz, H', ⟨by have := HK1.out; omega⟩, ⟨zb1 HB GE273⟩⟩
     ·rw [if_neg c5] at H
      exact absurd H (by simp)
    ·rw [if_neg c4] at H
     exact absurd H (by simp)
   ·rw [if_neg c3] at H
    have c3b0 : decide (x9_1 < (l0.length : Int)) = false := jU c3
    clear c3
    obtain rfl := jH H
    go_wp2
    go_ret
    exact ⟨by first | rfl | (simp [errW_none, errW_some] <;> rfl) | (simp [*, errW_none, errW_some] <;> rfl), zb0 HB⟩

/-! ### impl_copyList: function 87 -/
def impl_copyList.f (l0 : List Int) : Option (List Int) := (some (([] : List Int) : List Int)).bind fun y274 => (if y274.length + l0.length < 17592186044416 then (some (y274 ++ l0)) else (none))
set_option maxHeartbeats 8000000 in
set_option maxRecDepth 100000 in
theorem impl_copyList.calls (A0 : Option Addr) (c0 : Nat) (l0 : List Int) (r : List Int) (w : World) (hr0 : Kd.C (Kd.int .i64) w A0 l0.length l0) (hc0 : l0.length ≤ c0) (h : impl_copyList.f l0 = some r) :
  Calls Try.prog 87 #[.slice A0 l0.length c0] w fun e w' => ∃ v0_ : Value, e = .returned (v0_) ∧ Kd.R (Kd.int .i64) 2 w' w.heap.size (fun _ => True) v0_ r ∧ Below w.heap.size w w' := by
 have HR0 := jA hr0
 have HC0 := jA hc0
 clear hr0 hc0
 have HB := jA (Below.refl w.heap.size w)
 have H : ((some (([] : List Int) : List Int)).bind fun y274 => (if y274.length + l0.length < 17592186044416 then (some (y274 ++ l0)) else (none))) = some r := h
 clear h
 obtain ⟨y274, hy274⟩ : ∃ y_ : List Int, y_ = (([] : List Int)) := ⟨_, rfl⟩
 replace H : (if y274.length + l0.length < 17592186044416 then (some (y274 ++ l0)) else (none)) = some r := by first | (rw [hy274]; with_reducible exact H) | (have H2_ := (Option.bind_some _ _).symm.trans H; rw [hy274]; with_reducible exact H2_) | (have H2_ := (Option.bind_some _ _).symm.trans H; with_reducible exact H2_) | with_reducible exact H | (rw [hy274]; exact H) | exact H
 have Ny274 := jA hy274
 clear hy274
 by_cases c2 : y274.length + l0.length < 17592186044416
 ·rw [if_pos c2] at H
  have LMc2 := jA c2
  clear c2
  obtain ⟨y277, hy277⟩ : ∃ y_ : List Int, y_ = (y274 ++ l0) := ⟨_, rfl⟩
  replace H : (some y277) = some r := by first | (rw [hy277]; with_reducible exact H) | (have H2_ := (Option.bind_some _ _).symm.trans H; rw [hy277]; with_reducible exact H2_) | (have H2_ := (Option.bind_some _ _).symm.trans H; with_reducible exact H2_) | with_reducible exact H | (rw [hy277]; exact H) | exact H
  have Ny277 := jA hy277
  clear hy277
  obtain rfl := jH H
  go_enter Try.func87, Try.ntmps87
  go_wp2_with (first | ((with_reducible refine jT (N := 3) rfl ?_); refine Kd.R_lit (Kd.int .i64) _ 2 ?hg (N := 3) ?hd (xs := ([] : List Int)) (inner := []) (ok := fun _ => True) (okp := fun _ => True) ?hr ?hp (fun _ hk => hk) trivial (Below.refl _ _) (Nat.le_refl _) (by simp) ?_; (case hd => rfl); (case hg => rfl); (case hr => first | (go_simp; done) | (go_simp; rfl)); (case hp => exact (Reps.none _ _)); intro v275 w3 ho4 hb hg_ hnew_; clear hg_ hnew_; (first | rw [← Ny274.out] at ho4 | (simp only [Int.reduceToNat] at ho4; rw [← Ny274.out] at ho4)); have n0_ := jA (Kd.R_lower ho4 (jF (zb0 HB))); have n1_ := jA (jG (zb0 HB) hb); clear HB; have HO276 := n0_; have HB := n1_; clear n0_ n1_; clear hb ho4) | ((with_reducible refine gate_builtin (b := .append) (xs := #[.tmp 3, .tmp 4]) rfl ?_); at_builtin; refine Kd.R_append_rows (Kd.int .i64) (w0 := w) w.heap.size rfl (.tmp 3) (.tmp 4) 23 2 (.int .i64 0) 8 rfl Try.underlying23 info2 rfl (by decide) (by omega) v275 y274 l0 _ _ _ (fun _ => True) (fun _ => False) rfl rfl ?aO ?aR (fun _ _ h => h) (fun _ h => h.elim) ?aF ?aB ?aS ?aL ?_; (case aR => repeat (first | exact HR0.out | exact (Kd.C_below HR0.out HB.out) | (with_reducible refine Kd.C_alloc ?_ _) | (with_reducible refine Kd.C_drewN ?_ _) | (with_reducible refine Kd.C_drew ?_))); (case aB => exact (zb0 HB)); (case aF => exact (fun _ _ => trivial)); (case aO => exact (zo HO276)); (case aS => exact (jF (zb0 HB))); (case aL => have := LMc2.out; omega); intro v278 w5 ho hb hg hat; rw [← Ny277.out] at ho; have n0_ := jA (hb); have n1_ := jA (ho); clear HB; clear HO276; have HB := n0_; have HO279 := n1_; clear n0_ n1_; clear ho hb hg hat))
  go_ret
  exact ⟨_, by first | rfl | (simp [errW_none, errW_some] <;> rfl) | (simp [*, errW_none, errW_some] <;> rfl), by (with_reducible repeat (first | apply Kd.R_alloc | apply Kd.R_drewN | apply Kd.R_drew)); exact HO279.out, zb0 HB⟩
 ·rw [if_neg c2] at H
  exact absurd H (by simp)

/-! ### impl_withPieces: function 74 -/
def impl_withPieces.f (a0_0 : Int) (l0_1 : List Int) (a1 : Int) (a2 : Int) : Option (Int × List Int) := (impl_copyList.f l0_1).bind fun t282 => (if 0 ≤ a1 then (if a1 < (t282.length : Int) then (some (a0_0, (t282.set (a1 : Int).toNat (wrap64 ((rd t282 a1) + a2))))) else (none)) else (none))
def impl_withPieces.T1 : Bool × List (List Nat × List Nat) := (true, [([], []), ([0], [0]), ([], []), ([2], [2]), ([3], [3]), ([1, 4], [1, 4]), ([], []), ([6, 5, 4, 0, 1, 2, 3, 4, 5, 6], [5, 6])])
def impl_withPieces.B1 : List Nat := [0, 1, 0, 4, 12, 31, 0, 127]
theorem impl_withPieces.tab1 : rtab .any (opsOf Try.f74 1) = impl_withPieces.T1 := by kernel_rfl
theorem impl_withPieces.bits1 : waitsOk impl_withPieces.T1.2 impl_withPieces.B1 = true := by kernel_rfl
set_option maxHeartbeats 8000000 in
set_option maxRecDepth 100000 in
theorem impl_withPieces.calls (a0_0 : Int) (A0_1 : Option Addr) (c0_1 : Nat) (l0_1 : List Int) (a1 : Int) (a2 : Int) (r1 : Int) (r2 : List Int) (w : World) (hr0_1 : Kd.C (Kd.int .i64) w A0_1 l0_1.length l0_1) (hc0_1 : l0_1.length ≤ c0_1) (h : impl_withPieces.f a0_0 l0_1 a1 a2 = some (r1, r2)) :
  Calls Try.prog 74 #[.agg #[.int .i64 a0_0, .slice A0_1 l0_1.length c0_1], .int .i64 a1, .int .i64 a2] w fun e w' => ∃ v1_ : Value, e = .returned (.agg #[.int .i64 r1, v1_]) ∧ Kd.R (Kd.int .i64) 2 w' w.heap.size (fun _ => True) v1_ r2 ∧ Below w.heap.size w w' := by
 have hu28 := Try.underlying28
 have HR0_1 := jA hr0_1
 have HC0_1 := jA hc0_1
 clear hr0_1 hc0_1
 have HB := jA (Below.refl w.heap.size w)
 have H : ((impl_copyList.f l0_1).bind fun t282 => (if 0 ≤ a1 then (if a1 < (t282.length : Int) then (some (a0_0, (t282.set (a1 : Int).toNat (wrap64 ((rd t282 a1) + a2))))) else (none)) else (none))) = some (r1, r2) := h
 clear h
 replace H := jL.mp H
 obtain ⟨t282, A40, H⟩ := H
 replace H : (if 0 ≤ a1 then (if a1 < (t282.length : Int) then (some (a0_0, (t282.set (a1 : Int).toNat (wrap64 ((rd t282 a1) + a2))))) else (none)) else (none)) = some (r1, r2) := H
 have A4 := jA A40
 clear A40
 by_cases c5 : 0 ≤ a1
 ·rw [if_pos c5] at H
  have c5b0 : decide (0 ≤ a1) = true := jN c5
  clear c5
  by_cases c6 : a1 < (t282.length : Int)
  ·rw [if_pos c6] at H
   have c6b0 : decide (a1 < (t282.length : Int)) = true := jN c6
   clear c6
   obtain ⟨y287, hy287⟩ : ∃ y_ : List Int, y_ = (t282.set (a1 : Int).toNat (wrap64 ((rd t282 a1) + a2))) := ⟨_, rfl⟩
   replace H : (some (a0_0, y287)) = some (r1, r2) := by first | (rw [hy287]; with_reducible exact H) | (have H2_ := (Option.bind_some _ _).symm.trans H; rw [hy287]; with_reducible exact H2_) | (have H2_ := (Option.bind_some _ _).symm.trans H; with_reducible exact H2_) | with_reducible exact H | (rw [hy287]; exact H) | exact H
   have Ny287 := jA hy287
   clear hy287
   simp only [Option.some.injEq, Prod.mk.injEq] at H
   obtain ⟨rfl, rfl⟩ := H
   go_enter Try.func74, Try.ntmps74
   try go_wp2_with (first | ((with_reducible refine jT (N := 3) rfl ?_); refine jR ?hg (N := 3) ?hd (cs := #[.int .i64 a0_0, .slice A0_1 l0_1.length c0_1]) (t := 28) ?hr ?_; (case hd => rfl); (case hg => rfl); (case hr => first | (go_simp; done) | (go_simp; rfl)); intro gb280 hg w8 hbox hb; have n0_ := jA (jG (zb0 HB) hb); have n1_ := jA (hbox); have n2_ := jA ((by rw [hg]; exact (jF (zb0 HB)) : w.heap.size ≤ gb280)); have n3_ := jA ((by rw [hg]; exact (jF (zb0 HB)) : w.heap.size ≤ gb280)); clear HB; have HB := n0_; have BK280 := n1_; have GW280 := n2_; have GE280 := n3_; clear n0_ n1_ n2_ n3_; clear hb hbox hg) | ((with_reducible refine jT (N := 6) rfl ?_); refine jR ?hg (N := 6) ?hd (cs := #[.int .i64 0, .slice none 0 0]) (t := 28) ?hr ?_; (case hd => rfl); (case hg => rfl); (case hr => first | (go_simp; done) | (go_simp; rfl)); intro gb281 hg w9 hbox hb; have n0_ := jA (jO (g := gb280) (o := .cells #[.int .i64 a0_0, .slice A0_1 l0_1.length c0_1] 28 (0, 0)) (zk BK280) hb); have n1_ := jA (jG (zb1 HB GE280) hb); have n2_ := jA (hbox); have n3_ := jA ((by rw [hg]; exact (jF (zb1 HB GE280)) : w.heap.size ≤ gb281)); have n4_ := jA ((by rw [hg]; exact (jF (zb1 HB GE280)) : w.heap.size ≤ gb281)); have n5_ := jA ((by rw [hg]; exact jW (blk_lt (g := gb280) (o := .cells #[.int .i64 a0_0, .slice A0_1 l0_1.length c0_1] 28 (0, 0)) (zk BK280)) : gb280 ≠ gb281)); have n6_ := jA n5_.out.symm; clear BK280; clear HB; have BK280 := n0_; have HB := n1_; have BK281 := n2_; have GW281 := n3_; have GE281 := n4_; have NB280_281 := n5_; have NB281_280 := n6_; clear n0_ n1_ n2_ n3_ n4_ n5_ n6_; clear hb hbox hg))
   have n0_ := jA (jK BK280.out)
   have n1_ := jA (jK BK281.out)
   have n2_ := jA (below_drew1 HB.out)
   clear BK280
   clear BK281
   clear HB
   have BK280 := n0_
   have BK281 := n1_
   have HB := n2_
   clear n0_ n1_ n2_
   refine start_ (n := 8) (S := fun w' => w'.cell? ⟨gb280, 0, none⟩ = some (.int .i64 a0_0) ∧ w'.cell? ⟨gb280, 1, none⟩ = some (.slice A0_1 l0_1.length c0_1)) (ds := []) m8_0 zr rfl rfl ⟨(jD BK280.out 0).trans rfl, (jD BK280.out 1).trans rfl⟩ (fun hHeld => ?_); refine with_tabW impl_withPieces.tab1 impl_withPieces.bits1 (fun HT_ HW_ => ?_)
   generalize w9.drew = w10 at BK280 BK281 HB hHeld ⊢
   refine zp HT_ 0 8 m8_80 ?_
   refine zp HT_ 2 10 m8_a0 ?_
   refine zt2 HT_ HW_ hHeld 1 9 m8_e0 ?_
   refine zt2 HT_ HW_ hHeld 3 11 m8_f0 ?_
   refine join_ (σ := Value × Nat) 1 m8_fe (fun s_ => [(12, s_.1), (7, .pointer (some ⟨s_.2, 0, none⟩)), (13, .agg #[.int .i64 a0_0, s_.1])]) (fun s_ w' => (w'.cell? ⟨gb280, 0, none⟩ = some (.int .i64 a0_0) ∧ w'.cell? ⟨gb280, 1, none⟩ = some (.slice A0_1 l0_1.length c0_1)) ∧ (Kd.R (Kd.int .i64) 2 w' w.heap.size (fun _ => True) s_.1 t282) ∧ (w'.heap[gb280]? = some (.cells #[.int .i64 a0_0, .slice A0_1 l0_1.length c0_1] 28 (0, 0))) ∧ (w'.heap[gb281]? = some (.cells #[.int .i64 0, .slice none 0 0] 28 (0, 0))) ∧ (w'.heap[s_.2]? = some (.cells #[.int .i64 0, .slice none 0 0] 28 (0, 0))) ∧ (w.heap.size ≤ s_.2) ∧ (w.heap.size ≤ s_.2) ∧ (gb280 ≠ s_.2) ∧ (s_.2 ≠ gb280) ∧ (gb281 ≠ s_.2) ∧ (s_.2 ≠ gb281) ∧ (Below w.heap.size w w')) ?_ ?_
   rotate_left
   ·intro hCont
    refine two_ (i := 4) (j := 6) (Ni := some 12) (Nj := some 7) m8_f8 m8_f2 rfl rfl rfl rfl (two_of HT_.out zr) (by decide) (by decide) (fun K hK => ?_) (fun K hK => ?_)
    ·skip
     refine goes_ Try.func87 zr rfl #[.slice A0_1 l0_1.length c0_1] (by rfl) rfl rfl zm ?_
     with_reducible refine (impl_copyList.calls _ _ l0_1 t282 _ ?side1 ?side2 A4.out).mono ?_
     (case side1 => exact zs HR0_1 HB)
     (case side2 => exact HC0_1.out)
     rintro e w11 ⟨v283, rfl, ho0, hb⟩
     refine ⟨_, rfl, ?_⟩
     have n0_ := jA (Kd.R_lower ho0 (jF (zb2 HB GE280 GE281)))
     have n1_ := jA (jO (g := gb280) (o := .cells #[.int .i64 a0_0, .slice A0_1 l0_1.length c0_1] 28 (0, 0)) (zk BK280) hb)
     have n2_ := jA (jO (g := gb281) (o := .cells #[.int .i64 0, .slice none 0 0] 28 (0, 0)) (zk BK281) hb)
     have n3_ := jA (jG (zb2 HB GE280 GE281) hb)
     clear BK280
     clear BK281
     clear HB
     have HO284 := n0_
     have BK280 := n1_
     have BK281 := n2_
     have HB := n3_
     clear n0_ n1_ n2_ n3_
     (try clear hb)
     (try clear hb2)
     (try clear hk)
     (try clear hi)
     (try clear ho0)
     obtain ⟨Ao12, co12, eo12⟩ := Kd.R_slice HO284.out
     (first | subst eo12 | (injection eo12 with f1_ f2_ f3_; have f4_ := f1_.symm; have f5_ := f3_.symm; clear f1_ f2_ f3_; subst f4_; subst f5_))
     refine hK.out _ _ ⟨(jD BK280.out 0).trans rfl, (jD BK280.out 1).trans rfl⟩ (fun hHeld => ?_)
     clear hK K
     refine norm_ (a' := ?_) ?_ ?_
     rotate_left
     ·show Act.put _ (some 12) _ = _
      simp only [Act.put, jM, jP, jQ, i64_w, i32_w]
      rfl
     refine zp HT_ 5 13 m8_fc ?_
     refine one_ (i := 6) (N := some 7) m8_fe rfl rfl (one_of HT_.out zr) (by decide) (fun K hK => ?_)
     refine box_step ?hg (N := 7) ?hd (cs := #[.int .i64 0, .slice none 0 0]) (t := 28) ?hr ?_; (case hd => rfl); (case hg => rfl); (case hr => first | (go_simp; done) | (go_simp; rfl))
     intro gb285 hg w13 hbox hb
     have n0_ := jA (Kd.R_below (zo HO284) hb)
     have n1_ := jA (jO (g := gb280) (o := .cells #[.int .i64 a0_0, .slice A0_1 l0_1.length c0_1] 28 (0, 0)) (zk BK280) hb)
     have n2_ := jA (jO (g := gb281) (o := .cells #[.int .i64 0, .slice none 0 0] 28 (0, 0)) (zk BK281) hb)
     have n3_ := jA (jG (zb2 HB GE280 GE281) hb)
     have n4_ := jA (hbox)
     have n5_ := jA ((by rw [hg]; exact (jF (zb2 HB GE280 GE281)) : w.heap.size ≤ gb285))
     have n6_ := jA ((by rw [hg]; exact (jF (zb2 HB GE280 GE281)) : w.heap.size ≤ gb285))
     have n7_ := jA ((by rw [hg]; exact jW (blk_lt (g := gb280) (o := .cells #[.int .i64 a0_0, .slice A0_1 l0_1.length c0_1] 28 (0, 0)) (zk BK280)) : gb280 ≠ gb285))
     have n8_ := jA ((by rw [hg]; exact Nat.ne_of_gt (blk_lt (g := gb280) (o := .cells #[.int .i64 a0_0, .slice A0_1 l0_1.length c0_1] 28 (0, 0)) (zk BK280)) : gb285 ≠ gb280))
     have n9_ := jA ((by rw [hg]; exact jW (blk_lt (g := gb281) (o := .cells #[.int .i64 0, .slice none 0 0] 28 (0, 0)) (zk BK281)) : gb281 ≠ gb285))
     have n10_ := jA ((by rw [hg]; exact Nat.ne_of_gt (blk_lt (g := gb281) (o := .cells #[.int .i64 0, .slice none 0 0] 28 (0, 0)) (zk BK281)) : gb285 ≠ gb281))
     clear HO284
     clear BK280
     clear BK281
     clear HB
     have HO284 := n0_
     have BK280 := n1_
     have BK281 := n2_
     have HB := n3_
     have BK285 := n4_
     have GW285 := n5_
     have GE285 := n6_
     have NB280_285 := n7_
     have NB285_280 := n8_
     have NB281_285 := n9_
     have NB285_281 := n10_
     clear n0_ n1_ n2_ n3_ n4_ n5_ n6_ n7_ n8_ n9_ n10_
     clear hb hbox hg
     refine hK.out _ _ ⟨(jD BK280.out 0).trans rfl, (jD BK280.out 1).trans rfl⟩ (fun hHeld => ?_)
     clear hK K
     refine norm_ (a' := ?_) ?_ ?_
     rotate_left
     ·show Act.put _ (some 7) _ = _
      simp only [Act.put, jM, jP, jQ, i64_w, i32_w]
      rfl
     exact norm_ (by simp only [putAll, Act.put, jM, jP, jQ]) (hCont (.slice Ao12 t282.length co12, gb285) _ ⟨hHeld, (zo HO284), (zk BK280), (zk BK281), (zk BK285), GW285.out, GE285.out, NB280_285.out, NB285_280.out, NB281_285.out, NB285_281.out, (zb3 HB GE280 GE281 GE285)⟩)
    ·skip
     refine box_step ?hg (N := 7) ?hd (cs := #[.int .i64 0, .slice none 0 0]) (t := 28) ?hr ?_; (case hd => rfl); (case hg => rfl); (case hr => first | (go_simp; done) | (go_simp; rfl))
     intro gb285 hg w11 hbox hb
     have n0_ := jA (jO (g := gb280) (o := .cells #[.int .i64 a0_0, .slice A0_1 l0_1.length c0_1] 28 (0, 0)) (zk BK280) hb)
     have n1_ := jA (jO (g := gb281) (o := .cells #[.int .i64 0, .slice none 0 0] 28 (0, 0)) (zk BK281) hb)
     have n2_ := jA (jG (zb2 HB GE280 GE281) hb)
     have n3_ := jA (hbox)
     have n4_ := jA ((by rw [hg]; exact (jF (zb2 HB GE280 GE281)) : w.heap.size ≤ gb285))
     have n5_ := jA ((by rw [hg]; exact (jF (zb2 HB GE280 GE281)) : w.heap.size ≤ gb285))
     have n6_ := jA ((by rw [hg]; exact jW (blk_lt (g := gb280) (o := .cells #[.int .i64 a0_0, .slice A0_1 l0_1.length c0_1] 28 (0, 0)) (zk BK280)) : gb280 ≠ gb285))
     have n7_ := jA ((by rw [hg]; exact Nat.ne_of_gt (blk_lt (g := gb280) (o := .cells #[.int .i64 a0_0, .slice A0_1 l0_1.length c0_1] 28 (0, 0)) (zk BK280)) : gb285 ≠ gb280))
     have n8_ := jA ((by rw [hg]; exact jW (blk_lt (g := gb281) (o := .cells #[.int .i64 0, .slice none 0 0] 28 (0, 0)) (zk BK281)) : gb281 ≠ gb285))
     have n9_ := jA ((by rw [hg]; exact Nat.ne_of_gt (blk_lt (g := gb281) (o := .cells #[.int .i64 0, .slice none 0 0] 28 (0, 0)) (zk BK281)) : gb285 ≠ gb281))
     clear BK280
     clear BK281
     clear HB
     have BK280 := n0_
     have BK281 := n1_
     have HB := n2_
     have BK285 := n3_
     have GW285 := n4_
     have GE285 := n5_
     have NB280_285 := n6_
     have NB285_280 := n7_
     have NB281_285 := n8_
     have NB285_281 := n9_
     clear n0_ n1_ n2_ n3_ n4_ n5_ n6_ n7_ n8_ n9_
     clear hb hbox hg
     refine hK.out _ _ ⟨(jD BK280.out 0).trans rfl, (jD BK280.out 1).trans rfl⟩ (fun hHeld => ?_)
     clear hK K
     refine norm_ (a' := ?_) ?_ ?_
     rotate_left
     ·show Act.put _ (some 7) _ = _
      simp only [Act.put, jM, jP, jQ, i64_w, i32_w]
      rfl
     refine one_ (i := 4) (N := some 12) m8_fa rfl rfl (one_of HT_.out zr) (by decide) (fun K hK => ?_)
     refine goes_ Try.func87 zr rfl #[.slice A0_1 l0_1.length c0_1] (by rfl) rfl rfl zm ?_
     with_reducible refine (impl_copyList.calls _ _ l0_1 t282 _ ?side1 ?side2 A4.out).mono ?_
     (case side1 => exact zs HR0_1 HB)
     (case side2 => exact HC0_1.out)
     rintro e w12 ⟨v283, rfl, ho0, hb⟩
     refine ⟨_, rfl, ?_⟩
     have n0_ := jA (Kd.R_lower ho0 (jF (zb3 HB GE280 GE281 GE285)))
     have n1_ := jA (jO (g := gb280) (o := .cells #[.int .i64 a0_0, .slice A0_1 l0_1.length c0_1] 28 (0, 0)) (zk BK280) hb)
     have n2_ := jA (jO (g := gb281) (o := .cells #[.int .i64 0, .slice none 0 0] 28 (0, 0)) (zk BK281) hb)
     have n3_ := jA (jO (g := gb285) (o := .cells #[.int .i64 0, .slice none 0 0] 28 (0, 0)) (zk BK285) hb)
     have n4_ := jA (jG (zb3 HB GE280 GE281 GE285) hb)
     clear BK280
     clear BK281
     clear BK285
     clear HB
     have HO284 := n0_
     have BK280 := n1_
     have BK281 := n2_
     have BK285 := n3_
     have HB := n4_
     clear n0_ n1_ n2_ n3_ n4_
     (try clear hb)
     (try clear hb2)
     (try clear hk)
     (try clear hi)
     (try clear ho0)
     obtain ⟨Ao13, co13, eo13⟩ := Kd.R_slice HO284.out
     (first | subst eo13 | (injection eo13 with f1_ f2_ f3_; have f4_ := f1_.symm; have f5_ := f3_.symm; clear f1_ f2_ f3_; subst f4_; subst f5_))
     refine hK.out _ _ ⟨(jD BK280.out 0).trans rfl, (jD BK280.out 1).trans rfl⟩ (fun hHeld => ?_)
     clear hK K
     refine norm_ (a' := ?_) ?_ ?_
     rotate_left
     ·show Act.put _ (some 12) _ = _
      simp only [Act.put, jM, jP, jQ, i64_w, i32_w]
      rfl
     refine zp HT_ 5 13 m8_fe ?_
     exact norm_ (by simp only [putAll, Act.put, jM, jP, jQ]) (hCont (.slice Ao13 t282.length co13, gb285) _ ⟨hHeld, (zo HO284), (zk BK280), (zk BK281), (zk BK285), GW285.out, GE285.out, NB280_285.out, NB285_280.out, NB281_285.out, NB285_281.out, (zb3 HB GE280 GE281 GE285)⟩)
   rintro ⟨v283, gb285⟩ w14 ⟨hS_, h0_, h1_, h2_, h3_, h4_, h5_, h6_, h7_, h8_, h9_, h10_⟩
   have n0_ : Aside0 (Kd.R (Kd.int .i64) 2 w14 w.heap.size (fun _ => True) v283 t282) := ⟨h0_⟩
   have n1_ : Aside0 (w14.heap[gb280]? = some (.cells #[.int .i64 a0_0, .slice A0_1 l0_1.length c0_1] 28 (0, 0))) := ⟨h1_⟩
   have n2_ : Aside0 (w14.heap[gb281]? = some (.cells #[.int .i64 0, .slice none 0 0] 28 (0, 0))) := ⟨h2_⟩
   have n3_ : Aside0 (w14.heap[gb285]? = some (.cells #[.int .i64 0, .slice none 0 0] 28 (0, 0))) := ⟨h3_⟩
   have n4_ : Aside0 (w.heap.size ≤ gb285) := ⟨h4_⟩
   have n5_ : Aside0 (w.heap.size ≤ gb285) := ⟨h5_⟩
   have n6_ : Aside0 (gb280 ≠ gb285) := ⟨h6_⟩
   have n7_ : Aside0 (gb285 ≠ gb280) := ⟨h7_⟩
   have n8_ : Aside0 (gb281 ≠ gb285) := ⟨h8_⟩
   have n9_ : Aside0 (gb285 ≠ gb281) := ⟨h9_⟩
   have n10_ : Aside0 (Below w.heap.size w w14) := ⟨h10_⟩
   clear BK280
   clear BK281
   clear HB
   clear h0_ h1_ h2_ h3_ h4_ h5_ h6_ h7_ h8_ h9_ h10_
   have HO284 := n0_
   have BK280 := n1_
   have BK281 := n2_
   have BK285 := n3_
   have GW285 := n4_
   have GE285 := n5_
   have NB280_285 := n6_
   have NB285_280 := n7_
   have NB281_285 := n8_
   have NB285_281 := n9_
   have HB := n10_
   clear n0_ n1_ n2_ n3_ n4_ n5_ n6_ n7_ n8_ n9_ n10_
   have hHeld : w14.cell? ⟨gb280, 0, none⟩ = some (.int .i64 a0_0) ∧ w14.cell? ⟨gb280, 1, none⟩ = some (.slice A0_1 l0_1.length c0_1) := hS_
   obtain ⟨Ao15, co15, eo15⟩ := Kd.R_slice HO284.out
   (first | subst eo15 | (injection eo15 with f1_ f2_ f3_; have f4_ := f1_.symm; have f5_ := f3_.symm; clear f1_ f2_ f3_; subst f4_; subst f5_))
   refine norm_ (a' := ?_) ?_ ?_
   rotate_left
   ·simp only [putAll, Act.put, jM, jP, jQ]
    rfl
   refine one_ (i := 7) (N := none) m8_ff rfl rfl (one_of HT_.out zr) (by decide) (fun K hK => ?_)
   have hs16 : w14.cell? ⟨gb285, 0, none⟩ = some (.int .i64 0) := (jD BK285.out 0).trans rfl
   have hfs16 := jC BK285.out 0
   have hns16_0 := NB280_285.out
   have hns16_1 := NB281_285.out
   have hms16_0 := NB285_280.out
   have hms16_1 := NB285_281.out
   have hs17 : w14.cell? ⟨gb285, 1, none⟩ = some (.slice none 0 0) := (jD BK285.out 1).trans rfl
   have hfs17 := jC BK285.out 1
   have hns17_0 := NB280_285.out
   have hns17_1 := NB281_285.out
   have hms17_0 := NB285_280.out
   have hms17_1 := NB285_281.out
   refine skip_ (w1 := ?_) (by rfl) rfl ?_ ?_
   rotate_left
   ·go_simp
    rfl
   refine hK.out _ _ ⟨((cell_far (p := ⟨gb285, _, none⟩) NB280_285.out _).trans (((cell_far (p := ⟨gb285, _, none⟩) NB280_285.out _).trans (hHeld.1)))), ((cell_far (p := ⟨gb285, _, none⟩) NB280_285.out _).trans (((cell_far (p := ⟨gb285, _, none⟩) NB280_285.out _).trans (hHeld.2))))⟩ (fun hHeld => ?_)
   clear hK K
   refine done_ (done_of HT_.out zr) ?_
   have n0_ : Aside0 (Kd.R (Kd.int .i64) 2 ((w14.setCell ⟨gb285, 0, none⟩ (.int .i64 a0_0)).setCell ⟨gb285, 1, none⟩ (.slice Ao15 t282.length co15)) w.heap.size (fun _ => True) (.slice Ao15 t282.length co15) t282) := ⟨by (with_reducible repeat (first | apply Kd.R_alloc | apply Kd.R_drewN | apply Kd.R_drew)); exact Kd.R_mono (Kd.R_far (p := ⟨gb285, 1, none⟩) (Kd.R_far (p := ⟨gb285, 0, none⟩) (Kd.R_types HO284.out BK285.out (by decide)) (fun _ hk => hk.2) (.int .i64 a0_0)) (fun _ hk => hk.2) (.slice Ao15 t282.length co15)) (fun _ hk => trivial)⟩
   have n1_ : Aside0 (((w14.setCell ⟨gb285, 0, none⟩ (.int .i64 a0_0)).setCell ⟨gb285, 1, none⟩ (.slice Ao15 t282.length co15)).heap[gb280]? = some (.cells #[.int .i64 a0_0, .slice A0_1 l0_1.length c0_1] 28 (0, 0))) := ⟨by (with_reducible repeat (first | refine jI ?_ _ | refine jK ?_ | refine jJ ?_ _)); refine blk_far ?_ NB280_285.out _; (with_reducible repeat (first | refine jI ?_ _ | refine jK ?_ | refine jJ ?_ _)); refine blk_far ?_ NB280_285.out _; (with_reducible repeat (first | refine jI ?_ _ | refine jK ?_ | refine jJ ?_ _)); exact BK280.out⟩
   have n2_ : Aside0 (((w14.setCell ⟨gb285, 0, none⟩ (.int .i64 a0_0)).setCell ⟨gb285, 1, none⟩ (.slice Ao15 t282.length co15)).heap[gb281]? = some (.cells #[.int .i64 0, .slice none 0 0] 28 (0, 0))) := ⟨by (with_reducible repeat (first | refine jI ?_ _ | refine jK ?_ | refine jJ ?_ _)); refine blk_far ?_ NB281_285.out _; (with_reducible repeat (first | refine jI ?_ _ | refine jK ?_ | refine jJ ?_ _)); refine blk_far ?_ NB281_285.out _; (with_reducible repeat (first | refine jI ?_ _ | refine jK ?_ | refine jJ ?_ _)); exact BK281.out⟩
   have n3_ : Aside0 (((w14.setCell ⟨gb285, 0, none⟩ (.int .i64 a0_0)).setCell ⟨gb285, 1, none⟩ (.slice Ao15 t282.length co15)).heap[gb285]? = some (.cells #[.int .i64 a0_0, .slice Ao15 t282.length co15] 28 (0, 0))) := ⟨by (with_reducible repeat (first | refine jI ?_ _ | refine jK ?_ | refine jJ ?_ _)); refine jV (cs := #[.int .i64 a0_0, .slice none 0 0]) ?_ 1 _ rfl; (with_reducible repeat (first | refine jI ?_ _ | refine jK ?_ | refine jJ ?_ _)); refine jV (cs := #[.int .i64 0, .slice none 0 0]) ?_ 0 _ rfl; (with_reducible repeat (first | refine jI ?_ _ | refine jK ?_ | refine jJ ?_ _)); exact BK285.out⟩
   have n4_ : Aside0 (Below w.heap.size w ((w14.setCell ⟨gb285, 0, none⟩ (.int .i64 a0_0)).setCell ⟨gb285, 1, none⟩ (.slice Ao15 t282.length co15))) := ⟨zb3 HB GE280 GE281 GE285⟩
   (try clear HO284)
   (try clear BK280)
   (try clear BK281)
   (try clear BK285)
   (try clear HB)
   generalize ((w14.setCell ⟨gb285, 0, none⟩ (.int .i64 a0_0)).setCell ⟨gb285, 1, none⟩ (.slice Ao15 t282.length co15)) = w18 at n0_ n1_ n2_ n3_ n4_ ⊢
   have HO284 := n0_
   have BK280 := n1_
   have BK281 := n2_
   have BK285 := n3_
   have HB := n4_
   clear n0_ n1_ n2_ n3_ n4_
   have hnb19 := NB285_280.out
   have hnc19 := NB280_285.out
   have hnb20 := NB285_281.out
   have hnc20 := NB281_285.out
   have hcz21_0 : w18.cell? ⟨gb285, 0, none⟩ = some (.int .i64 a0_0) := (jD BK285.out 0).trans rfl
   have hcz21_1 : w18.cell? ⟨gb285, 1, none⟩ = some (.slice Ao15 t282.length co15) := (jD BK285.out 1).trans rfl
   have hfz21_0 := jC BK285.out 0
   have hfz21_1 := jC BK285.out 1
   have p286 : 0 ≤ (a1 : Int) := jE za
   have q286 : a1 < (t282.length : Int) := jE za
   obtain ⟨ad286, e286, hx286_0⟩ := Kd.at_int (Kd.R_reads' HO284.out).2.2 a1 p286 q286
   cases e286
   replace p286 := eq_true p286
   replace q286 := eq_true q286
   have p7 : 0 ≤ (a1 : Int) := jE za
   have q7 : (a1 : Int) < ((t282.length : Int) : Int) := jE za
   obtain ⟨go7, co7, eo7, gb7, gl7, cl7, HG7⟩ := Kd.R_form HO284.out (by omega)
   (first | cases eo7 | (injection eo7 with ea_ en_ ec_; (first | subst ea_ | (injection ea_ with ea_; subst ea_)); subst ec_; clear en_))
   have GB7 := jA gb7
   have GG7 := jA HG7
   clear gb7 gl7 HG7
   (first | simp only [add_plain] at hx286_0 | skip)
   obtain ⟨hx7_0, hf7_0⟩ := Kd.R_celln 0 HO284.out (a1 : Int) p7 q7
   replace p7 := eq_true p7
   replace q7 := eq_true q7
   obtain ⟨hy22_, hz22_⟩ := Kd.R_celln 0 HO284.out (a1 : Int) (jE za) (jE za)
   have HP22 := Kd.R_putg HO284.out (a1 : Int) (wrap64 ((rd t282 a1) + a2))
   try go_wp2_with (first | ((with_reducible refine gate_store (t := 2) (p := 21) rfl ?_); refine store_event (t := 2) (p := 21) (v := ?vo_w23) (w1 := (w18.setCell ⟨go7, (a1 : Int).toNat, none⟩ (.int .i64 (wrap64 ((rd t282 a1) + a2))))) ?hg ?ho ?hn ?hr ?_; (case ho => rfl); (case hg => rfl); (case hn => rfl); (case hr => first | (go_simp; done) | (go_simp; rfl)); intro w23 hw; have hg : w18.grownBy w23 (some go7) := (by rw [hw]; exact HP22.2); have hp_ : Kd.R (Kd.int .i64) 2 w23 w.heap.size (fun _ => True) (.slice (some ⟨go7, 0, none⟩) t282.length co15) y287 := (by rw [hw, Ny287.out]; exact HP22.1); clear HP22; have n0_ := jA (blk_grown (g := gb280) (o := .cells #[.int .i64 a0_0, .slice A0_1 l0_1.length c0_1] 28 (0, 0)) (zk BK280) hg (Kd.R_ne HO284.out BK280.out (by decide))); have n1_ := jA (blk_grown (g := gb281) (o := .cells #[.int .i64 0, .slice none 0 0] 28 (0, 0)) (zk BK281) hg (Kd.R_ne HO284.out BK281.out (by decide))); have n2_ := jA (hp_); have n3_ := jA (blk_grown (g := gb285) (o := .cells #[.int .i64 a0_0, .slice (some ⟨go7, 0, none⟩) t282.length co15] 28 (0, 0)) (zk BK285) hg (Kd.R_ne HO284.out BK285.out (by decide))); have n4_ := jA ((by rw [hw]; exact below_set (HB.out) GB7.out : Below w.heap.size w w23)); clear BK280; clear BK281; clear HO284; clear BK285; clear HB; have BK280 := n0_; have BK281 := n1_; have HO284 := n2_; have BK285 := n3_; have HB := n4_; clear n0_ n1_ n2_ n3_ n4_; clear hg hw hp_; have hcz24_0 : w23.cell? ⟨gb285, 0, none⟩ = some (.int .i64 a0_0) := (jD BK285.out 0).trans rfl; have hcz24_1 : w23.cell? ⟨gb285, 1, none⟩ = some (.slice (some ⟨go7, 0, none⟩) t282.length co15) := (jD BK285.out 1).trans rfl; have hfz24_0 := jC BK285.out 0; have hfz24_1 := jC BK285.out 1; have hnb25 := NB281_280.out; have hnc25 := NB280_281.out; have hcz26_0 : w23.cell? ⟨gb281, 0, none⟩ = some (.int .i64 0) := (jD BK281.out 0).trans rfl; have hcz26_1 : w23.cell? ⟨gb281, 1, none⟩ = some (.slice none 0 0) := (jD BK281.out 1).trans rfl; have hfz26_0 := jC BK281.out 0; have hfz26_1 := jC BK281.out 1))
   refine bodyPost_ret (results_cell_row rfl _ _ gb281 28 #[.int .i64 a0_0, .slice (some ⟨go7, 0, none⟩) t282.length co15] (0, 0) _ rfl (by (with_reducible repeat (first | refine jI ?_ _ | refine jK ?_ | refine jJ ?_ _)); refine jV (cs := #[.int .i64 a0_0, .slice none 0 0]) ?_ 1 _ rfl; (with_reducible repeat (first | refine jI ?_ _ | refine jK ?_ | refine jJ ?_ _)); refine jV (cs := #[.int .i64 0, .slice none 0 0]) ?_ 0 _ rfl; (with_reducible repeat (first | refine jI ?_ _ | refine jK ?_ | refine jJ ?_ _)); exact BK281.out) Try.underlying28 rfl zr) rfl ?_
   exact ⟨_, by first | rfl | (simp [errW_none, errW_some] <;> rfl) | (simp [*, errW_none, errW_some] <;> rfl), by (with_reducible repeat (first | apply Kd.R_alloc | apply Kd.R_drewN | apply Kd.R_drew)); exact Kd.R_mono (Kd.R_far (p := ⟨gb281, 1, none⟩) (Kd.R_far (p := ⟨gb281, 0, none⟩) (Kd.R_types HO284.out BK281.out (by decide)) (fun _ hk => hk.2) (.int .i64 a0_0)) (fun _ hk => hk.2) (.slice (some ⟨go7, 0, none⟩) t282.length co15)) (fun _ hk => trivial), zb3 HB GE280 GE281 GE285⟩
  ·rw [if_neg c6] at H
   exact absurd H (by simp)
 ·rw [if_neg c5] at H
  exact absurd H (by simp)

end Go.Proofs.Ytdgglhfnlljmeaa.PFnExactTakePieces
