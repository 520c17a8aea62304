/- Functions and contracts that FnMagazines reaches (5 of 24). -/
import Derived.Test.YtdgglhfnlljmeaaQFnMagazinesx3
namespace Go.Proofs.Ytdgglhfnlljmeaa.PFnMagazines
open Go.RowKit Go.Proofs.YtdgglhfnlljmeaaW.PrintWords Go.Proofs.YtdgglhfnlljmeaaW.PrintLast Go.Proofs.YtdgglhfnlljmeaaW.PrintMore
attribute [local go_sem] max2_int min2_int max_two min_two max_three min_three max_four min_four   -- for this text's walks alone
set_option linter.unusedVariables false
set_option linter.unusedSimpArgs false

/-! ### spec_l03Code: function 59 -/
def spec_l03Code.l0 : Nat → List (S65) → List Int → Int → Option (Int)
 | 0, _, _, _ => none
 | k + 1, x0, x1, x5 => if x5 < (x1.length : Int) then (if 0 ≤ x5 then ((spec_l01In.f (rd x1 x5) 0 1000).bind fun t139 => (if t139 = true then (spec_l03Code.l0 k x0 x1 (wrap64 (x5 + 1))) else (some 2))) else (none)) else (if (x1.length : Int) = (x0.length : Int) then (some 0) else (some 2))
def spec_l03Code.f (k : Nat) (l0 : List (S65)) (l1 : List Int) : Option (Int) := (spec_AreArticles.f k l0).bind fun t137 => (if t137 = true then (spec_l03Code.l0 k l0 l1 0) else (some 1))
theorem spec_l03Code.mono_l : ∀ k, (∀ y0 y1 y2, LeO (spec_l03Code.l0 k y0 y1 y2) (spec_l03Code.l0 (k + 1) y0 y1 y2))
 | 0 => fun _ _ _ r h => by simp [spec_l03Code.l0] at h
 | k + 1 => by
  have ih0 := spec_l03Code.mono_l k
  ·intro y0 y1 y2
   unfold spec_l03Code.l0
   repeat' first
   | (with_reducible exact ih0 _ _ _)
   | (with_reducible exact spec_AreArticles.mono _ _)
   | (with_reducible exact LeO.refl _)
   | (with_reducible exact LeO.none _)
   | (with_reducible refine LeO.ite ?_ ?_)
   | (with_reducible refine LeO.bind ?_ (fun _ => ?_))
   | exact ih0 _ _ _
   | exact spec_AreArticles.mono _ _
   | exact LeO.none _
   | refine LeO.ite ?_ ?_
   | refine LeO.bind ?_ (fun _ => ?_)
theorem spec_l03Code.mono : ∀ a0 a1 k, LeO (spec_l03Code.f k a0 a1) (spec_l03Code.f (k + 1) a0 a1) := by
 intro a0 a1 k
 have ih0 := spec_l03Code.mono_l k
 unfold spec_l03Code.f
 repeat' first
   | (with_reducible exact ih0 _ _ _)
   | (with_reducible exact spec_AreArticles.mono _ _)
   | (with_reducible exact LeO.refl _)
   | (with_reducible exact LeO.none _)
   | (with_reducible refine LeO.ite ?_ ?_)
   | (with_reducible refine LeO.bind ?_ (fun _ => ?_))
   | exact ih0 _ _ _
   | exact spec_AreArticles.mono _ _
   | exact LeO.none _
   | refine LeO.ite ?_ ?_
   | refine LeO.bind ?_ (fun _ => ?_)
set_option maxHeartbeats 8000000 in
set_option maxRecDepth 100000 in
theorem spec_l03Code.calls (k : Nat) (A0 : Option Addr) (c0 : Nat) (l0 : List (S65)) (A1 : Option Addr) (c1 : Nat) (l1 : List Int) (r : Int) (w : World) (hr0 : Kd.C k65 w A0 l0.length l0) (hc0 : l0.length ≤ c0) (hr1 : Kd.C (Kd.int .i64) w A1 l1.length l1) (hc1 : l1.length ≤ c1) (h : spec_l03Code.f k l0 l1 = some r) :
  Calls Try.prog 59 #[.slice A0 l0.length c0, .slice A1 l1.length c1] w fun e w' => e = .returned (.int .i64 r) ∧ Below w.heap.size w w' := by
 have HR0 := jA hr0
 have HC0 := jA hc0
 clear hr0 hc0
 have HR1 := jA hr1
 have HC1 := jA hc1
 clear hr1 hc1
 have HB := jA (Below.refl w.heap.size w)
 have H := h
 unfold spec_l03Code.f at H
 clear h
 replace H := jB.mp H
 obtain ⟨t137, A30, H⟩ := H
 try dsimp only at H
 have A3 := jA A30
 clear A30
 by_cases c4 : t137 = true
 ·subst c4
  rw [if_pos rfl] at H
  have H' := jA H
  clear H
  go_enter Try.func59, Try.ntmps59
  go_wp2_with (first | ((with_reducible refine jD (f := 83) rfl ?_); refine zL (some 7) Try.func83 #[.slice A0 l0.length c0] ?_; (with_reducible refine (spec_AreArticles.calls k _ _ l0 true _ ?side1 ?side2 A3.out).mono ?_); (case side1 => repeat (first | exact HR0.out | (with_reducible refine Kd.C_alloc ?_ _) | (with_reducible refine Kd.C_drewN ?_ _) | (with_reducible refine Kd.C_drew ?_))); (case side2 => exact HC0.out); rintro e w5 ⟨rfl, hb⟩; refine ⟨_, rfl, ?_⟩; replace HB := zS0 HB hb; clear hb))
  go_loopg [5] k (fun kq v5 w' => ∃ (x5_1 : Int), v5 = .int .i64 x5_1 ∧ Aside0 (spec_l03Code.l0 kq l0 l1 x5_1 = some r) ∧ Aside0 (kq ≤ k) ∧ Aside0 (Below w.heap.size w w'))
  case atStart => exact ⟨(0), zz, H', ⟨Nat.le_refl _⟩, ⟨zb0 HB⟩⟩
  case round =>
   clear H'
   try clear c1
   try clear p2
   try clear c4
   try clear c5
   obtain ⟨x5_1, rfl, HA, HK1, HB⟩ := hrel
   cases gk with
   | zero => exact absurd HA.out (by simp [spec_l03Code.l0])
   | succ k1 =>
    have H := HA.out
    clear HA
    simp only [spec_l03Code.l0] at H
    by_cases c6 : x5_1 < (l1.length : Int)
    ·rw [if_pos c6] at H
     have c6b0 : decide (x5_1 < (l1.length : Int)) = true := jJ c6
     clear c6
     by_cases c7 : 0 ≤ x5_1
     ·rw [if_pos c7] at H
      have c7b0 : decide (0 ≤ x5_1) = true := jJ c7
      clear c7
      replace H := jB.mp H
      obtain ⟨t139, A80, H⟩ := H
      replace H : (if t139 = true then (spec_l03Code.l0 k1 l0 l1 (wrap64 (x5_1 + 1))) else (some 2)) = some r := H
      have A8 := jA A80
      clear A80
      by_cases c9 : t139 = true
      ·subst c9
       rw [if_pos rfl] at H
       have H' := jA H
       clear H
       have p138 : 0 ≤ (x5_1 : Int) := jC za
       have q138 : x5_1 < (l1.length : Int) := jC za
       obtain ⟨ad138, e138, hx138_0⟩ := Kd.at_int HR1.out x5_1 p138 q138
       cases e138
       replace hx138_0 := zx HB hx138_0
       replace p138 := eq_true p138
       replace q138 := eq_true q138
       go_wp2_with (first | ((with_reducible refine jD (f := 58) rfl ?_); refine zL (some 19) Try.func58 #[.int .i64 (rd l1 x5_1), .int .i64 0, .int .i64 1000] ?_; (with_reducible refine (spec_l01In.calls (rd l1 x5_1) 0 1000 true _ A8.out).mono ?_); rintro e w' ⟨rfl, ⟨nd, rfl⟩⟩; refine ⟨_, rfl, ?_⟩))
       go_roundg k1
       case measure => have := HK1.out; omega
       case rel => exact ⟨(wrap64 (x5_1 + 1)), zz, H', ⟨by have := HK1.out; omega⟩, ⟨zb0 HB⟩⟩
      ·replace c9 := Bool.eq_false_iff.mpr c9
       subst c9
       rw [if_neg zfalse] at H
       obtain rfl := jK H
       have p138 : 0 ≤ (x5_1 : Int) := jC za
       have q138 : x5_1 < (l1.length : Int) := jC za
       obtain ⟨ad138, e138, hx138_0⟩ := Kd.at_int HR1.out x5_1 p138 q138
       cases e138
       replace hx138_0 := zx HB hx138_0
       replace p138 := eq_true p138
       replace q138 := eq_true q138
       go_wp2_with (first | ((with_reducible refine jD (f := 58) rfl ?_); refine zL (some 19) Try.func58 #[.int .i64 (rd l1 x5_1), .int .i64 0, .int .i64 1000] ?_; (with_reducible refine (spec_l01In.calls (rd l1 x5_1) 0 1000 false _ A8.out).mono ?_); rintro e w' ⟨rfl, ⟨nd, rfl⟩⟩; refine ⟨_, rfl, ?_⟩))
       go_ret
       exact ⟨ze, zb0 HB⟩
     ·rw [if_neg c7] at H
      exact absurd H (by simp)
    ·rw [if_neg c6] at H
     have c6b0 : decide (x5_1 < (l1.length : Int)) = false := jQ c6
     clear c6
     by_cases c10 : (l1.length : Int) = (l0.length : Int)
     ·rw [if_pos c10] at H
      have c10b0 : ((l1.length : Int) == (l0.length : Int)) = true := beq_iff_eq.mpr c10
      have c10b1 : ((l1.length : Int) != (l0.length : Int)) = false := bne_eq_false_iff_eq.mpr c10
      have c10b2 : (l1.length == l0.length) = true := by first | simpa using c10 | (simp at c10 ⊢; omega)
      clear c10
      obtain rfl := jK H
      go_wp2
      go_ret
      exact ⟨ze, zb0 HB⟩
     ·rw [if_neg c10] at H
      have c10b0 : ((l1.length : Int) == (l0.length : Int)) = false := beq_eq_false_iff_ne.mpr c10
      have c10b1 : ((l1.length : Int) != (l0.length : Int)) = true := bne_iff_ne.mpr c10
      have c10b2 : (l1.length == l0.length) = false := by first | simpa using c10 | (simp at c10 ⊢; omega)
      obtain rfl := jK H
      go_wp2
      go_ret
      exact ⟨ze, zb0 HB⟩
 ·replace c4 := Bool.eq_false_iff.mpr c4
  subst c4
  rw [if_neg zfalse] at H
  obtain rfl := jK H
  go_enter Try.func59, Try.ntmps59
  go_wp2_with (first | ((with_reducible refine jD (f := 83) rfl ?_); refine zL (some 7) Try.func83 #[.slice A0 l0.length c0] ?_; (with_reducible refine (spec_AreArticles.calls k _ _ l0 false _ ?side1 ?side2 A3.out).mono ?_); (case side1 => repeat (first | exact HR0.out | (with_reducible refine Kd.C_alloc ?_ _) | (with_reducible refine Kd.C_drewN ?_ _) | (with_reducible refine Kd.C_drew ?_))); (case side2 => exact HC0.out); rintro e w11 ⟨rfl, hb⟩; refine ⟨_, rfl, ?_⟩; replace HB := zS0 HB hb; clear hb))
  go_ret
  exact ⟨ze, zb0 HB⟩

/-! ### spec_IsMagazine: function 25 -/
def spec_IsMagazine.f (k : Nat) (l0 : List (S65)) (a1_0 : Int) (l1_1 : List Int) : Option (Bool) := (spec_l01In.f a1_0 0 1000000000).bind fun t141 => (if t141 = true then ((spec_l03Code.f k l0 l1_1).bind fun t142 => (some (t142 == 0))) else (some false))
theorem spec_IsMagazine.mono : ∀ a0 a1 a2 k, LeO (spec_IsMagazine.f k a0 a1 a2) (spec_IsMagazine.f (k + 1) a0 a1 a2) := by
 intro a0 a1 a2 k
 unfold spec_IsMagazine.f
 repeat' first
   | (with_reducible exact spec_l03Code.mono _ _ _)
   | (with_reducible exact LeO.refl _)
   | (with_reducible exact LeO.none _)
   | (with_reducible refine LeO.ite ?_ ?_)
   | (with_reducible refine LeO.bind ?_ (fun _ => ?_))
   | exact spec_l03Code.mono _ _ _
   | exact LeO.none _
   | refine LeO.ite ?_ ?_
   | refine LeO.bind ?_ (fun _ => ?_)
set_option maxHeartbeats 8000000 in
set_option maxRecDepth 100000 in
theorem spec_IsMagazine.calls (k : Nat) (A0 : Option Addr) (c0 : Nat) (l0 : List (S65)) (a1_0 : Int) (A1_1 : Option Addr) (c1_1 : Nat) (l1_1 : List Int) (r : Bool) (w : World) (hr0 : Kd.C k65 w A0 l0.length l0) (hc0 : l0.length ≤ c0) (hr1_1 : Kd.C (Kd.int .i64) w A1_1 l1_1.length l1_1) (hc1_1 : l1_1.length ≤ c1_1) (h : spec_IsMagazine.f k l0 a1_0 l1_1 = some r) :
  Calls Try.prog 25 #[.slice A0 l0.length c0, .agg #[.int .i64 a1_0, .slice A1_1 l1_1.length c1_1]] w fun e w' => e = .returned (.bool r) ∧ Below w.heap.size w w' := by
 have hu28 := Try.underlying28
 have HR0 := jA hr0
 have HC0 := jA hc0
 clear hr0 hc0
 have HR1_1 := jA hr1_1
 have HC1_1 := jA hc1_1
 clear hr1_1 hc1_1
 have HB := jA (Below.refl w.heap.size w)
 have H := h
 unfold spec_IsMagazine.f at H
 clear h
 replace H := jB.mp H
 obtain ⟨t141, A30, H⟩ := H
 try dsimp only at H
 have A3 := jA A30
 clear A30
 by_cases c4 : t141 = true
 ·subst c4
  rw [if_pos rfl] at H
  replace H := jB.mp H
  obtain ⟨t142, A50, H⟩ := H
  replace H : (some (t142 == 0)) = some r := H
  have A5 := jA A50
  clear A50
  obtain rfl := jK H
  go_enter Try.func25, Try.ntmps25
  go_wp2_with (first | ((with_reducible refine jL (N := 3) rfl ?_); refine zE 3 #[.int .i64 a1_0, .slice A1_1 l1_1.length c1_1] 28 ?_; intro gb140 hg w6 hbox hb; have BK140 := jA (hbox); have GW140 := zg0 hg HB; have GE140 := zg0 hg HB; replace HB := zS0 HB hb; clear hb hbox hg; have hcz7 := zc2 BK140) | ((with_reducible refine jD (f := 58) rfl ?_); refine zL (some 7) Try.func58 #[.int .i64 a1_0, .int .i64 0, .int .i64 1000000000] ?_; (with_reducible refine (spec_l01In.calls a1_0 0 1000000000 true _ A3.out).mono ?_); rintro e w' ⟨rfl, ⟨nd, rfl⟩⟩; refine ⟨_, rfl, ?_⟩) | (go_at_call 59; (with_reducible refine (spec_l03Code.calls k _ _ l0 _ _ l1_1 t142 _ ?side1 ?side2 ?side3 ?side4 A5.out).mono ?_); (case side1 => repeat (first | exact HR0.out | exact (Kd.C_below HR0.out (zb1 HB GE140)) | (with_reducible refine Kd.C_alloc ?_ _) | (with_reducible refine Kd.C_drewN ?_ _) | (with_reducible refine Kd.C_drew ?_))); (case side2 => exact HC0.out); (case side3 => repeat (first | exact HR1_1.out | exact (Kd.C_below HR1_1.out (zb1 HB GE140)) | (with_reducible refine Kd.C_alloc ?_ _) | (with_reducible refine Kd.C_drewN ?_ _) | (with_reducible refine Kd.C_drew ?_))); (case side4 => exact HC1_1.out); rintro e w8 ⟨rfl, hb⟩; replace BK140 := zB BK140 hb; replace HB := zS1 HB GE140 hb; (try clear hb); (try clear hb2); (try clear hk); (try clear hi)))
  go_ret
  exact ⟨ze, zb1 HB GE140⟩
 ·replace c4 := Bool.eq_false_iff.mpr c4
  subst c4
  rw [if_neg zfalse] at H
  obtain rfl := jK H
  go_enter Try.func25, Try.ntmps25
  go_wp2_with (first | ((with_reducible refine jL (N := 3) rfl ?_); refine zE 3 #[.int .i64 a1_0, .slice A1_1 l1_1.length c1_1] 28 ?_; intro gb140 hg w9 hbox hb; have BK140 := jA (hbox); have GW140 := zg0 hg HB; have GE140 := zg0 hg HB; replace HB := zS0 HB hb; clear hb hbox hg; have hcz10 := zc2 BK140) | ((with_reducible refine jD (f := 58) rfl ?_); refine zL (some 7) Try.func58 #[.int .i64 a1_0, .int .i64 0, .int .i64 1000000000] ?_; (with_reducible refine (spec_l01In.calls a1_0 0 1000000000 false _ A3.out).mono ?_); rintro e w' ⟨rfl, ⟨nd, rfl⟩⟩; refine ⟨_, rfl, ?_⟩))
  go_ret
  exact ⟨ze, zb1 HB GE140⟩

/-! ### spec_l26Net: function 63 -/
def spec_l26Net.l0 : Nat → List (S65) → Int → Int → Int → List Int → Option (Int)
 | 0, _, _, _, _, _ => none
 | k + 1, x0, x5, x6, x144000, x144001 => if x6 < (x0.length : Int) then (if 0 ≤ x6 then (if x6 < (x144001.length : Int) then (spec_l26Net.l0 k x0 (wrap64 (x5 + (wrap64 (((rd_T65 x0 x6).f7) * (rd x144001 x6))))) (wrap64 (x6 + 1)) x144000 x144001) else (none)) else (none)) else (some x5)
def spec_l26Net.f (k : Nat) (l0 : List (S65)) (a1_0 : Int) (l1_1 : List Int) : Option (Int) := spec_l26Net.l0 k l0 0 0 a1_0 l1_1
theorem spec_l26Net.mono_l : ∀ k, (∀ y0 y1 y2 y3 y4, LeO (spec_l26Net.l0 k y0 y1 y2 y3 y4) (spec_l26Net.l0 (k + 1) y0 y1 y2 y3 y4))
 | 0 => fun _ _ _ _ _ r h => by simp [spec_l26Net.l0] at h
 | k + 1 => by
  have ih0 := spec_l26Net.mono_l k
  ·intro y0 y1 y2 y3 y4
   unfold spec_l26Net.l0
   repeat' first
   | (with_reducible exact ih0 _ _ _ _ _)
   | (with_reducible exact LeO.refl _)
   | (with_reducible exact LeO.none _)
   | (with_reducible refine LeO.ite ?_ ?_)
   | (with_reducible refine LeO.bind ?_ (fun _ => ?_))
   | exact ih0 _ _ _ _ _
   | exact LeO.none _
   | refine LeO.ite ?_ ?_
   | refine LeO.bind ?_ (fun _ => ?_)
theorem spec_l26Net.mono : ∀ a0 a1 a2 k, LeO (spec_l26Net.f k a0 a1 a2) (spec_l26Net.f (k + 1) a0 a1 a2) := by
 intro a0 a1 a2 k
 have ih0 := spec_l26Net.mono_l k
 unfold spec_l26Net.f
 repeat' first
   | (with_reducible exact ih0 _ _ _ _ _)
   | (with_reducible exact LeO.refl _)
   | (with_reducible exact LeO.none _)
   | (with_reducible refine LeO.ite ?_ ?_)
   | (with_reducible refine LeO.bind ?_ (fun _ => ?_))
   | exact ih0 _ _ _ _ _
   | exact LeO.none _
   | refine LeO.ite ?_ ?_
   | refine LeO.bind ?_ (fun _ => ?_)
set_option maxHeartbeats 8000000 in
set_option maxRecDepth 100000 in
theorem spec_l26Net.calls (k : Nat) (A0 : Option Addr) (c0 : Nat) (l0 : List (S65)) (a1_0 : Int) (A1_1 : Option Addr) (c1_1 : Nat) (l1_1 : List Int) (r : Int) (w : World) (hr0 : Kd.C k65 w A0 l0.length l0) (hc0 : l0.length ≤ c0) (hr1_1 : Kd.C (Kd.int .i64) w A1_1 l1_1.length l1_1) (hc1_1 : l1_1.length ≤ c1_1) (h : spec_l26Net.f k l0 a1_0 l1_1 = some r) :
  Calls Try.prog 63 #[.slice A0 l0.length c0, .agg #[.int .i64 a1_0, .slice A1_1 l1_1.length c1_1]] w fun e w' => e = .returned (.int .i64 r) ∧ Below w.heap.size w w' := by
 have hu28 := Try.underlying28
 have HR0 := jA hr0
 have HC0 := jA hc0
 clear hr0 hc0
 have HR1_1 := jA hr1_1
 have HC1_1 := jA hc1_1
 clear hr1_1 hc1_1
 have HB := jA (Below.refl w.heap.size w)
 have H : (spec_l26Net.l0 k l0 0 0 a1_0 l1_1) = some r := h
 clear h
 have H' := jA H
 clear H
 go_enter Try.func63, Try.ntmps63
 go_wp2_with (first | ((with_reducible refine jL (N := 3) rfl ?_); refine zE 3 #[.int .i64 a1_0, .slice A1_1 l1_1.length c1_1] 28 ?_; intro gb143 hg w3 hbox hb; have BK143 := jA (hbox); have GW143 := zg0 hg HB; have GE143 := zg0 hg HB; replace HB := zS0 HB hb; clear hb hbox hg))
 repeat (go_quiet (first | ((with_reducible refine jL (N := 3) rfl ?_); refine zE 3 #[.int .i64 a1_0, .slice A1_1 l1_1.length c1_1] 28 ?_; intro gb143 hg w3 hbox hb; have BK143 := jA (hbox); have GW143 := zg0 hg HB; have GE143 := zg0 hg HB; replace HB := zS0 HB hb; clear hb hbox hg)); try go_wp2_with (first | ((with_reducible refine jL (N := 3) rfl ?_); refine zE 3 #[.int .i64 a1_0, .slice A1_1 l1_1.length c1_1] 28 ?_; intro gb143 hg w3 hbox hb; have BK143 := jA (hbox); have GW143 := zg0 hg HB; have GE143 := zg0 hg HB; replace HB := zS0 HB hb; clear hb hbox hg)))
 go_loopg [5, 6] k (fun kq v5 v6 w' => ∃ (x5_1 : Int) (x6_1 : Int), v5 = .int .i64 x5_1 ∧ v6 = .int .i64 x6_1 ∧ Aside0 (spec_l26Net.l0 kq l0 x5_1 x6_1 a1_0 l1_1 = some r) ∧ Aside0 (kq ≤ k) ∧ Aside0 (w'.heap[gb143]? = some (.cells #[.int .i64 a1_0, (.slice A1_1 l1_1.length c1_1)] 28 (0, 0))) ∧ Aside0 (Below w.heap.size w w'))
 case atStart => exact ⟨(0), (0), zz, zz, H', ⟨Nat.le_refl _⟩, ⟨zk BK143⟩, ⟨zb1 HB GE143⟩⟩
 case round =>
  clear H'
  try clear c1
  try clear p2
  obtain ⟨x5_1, x6_1, rfl, rfl, HA, HK1, BK143, HB⟩ := hrel
  cases gk with
  | zero => exact absurd HA.out (by simp [spec_l26Net.l0])
  | succ k1 =>
   have H := HA.out
   clear HA
   simp only [spec_l26Net.l0] at H
   by_cases c4 : x6_1 < (l0.length : Int)
   ·rw [if_pos c4] at H
    have c4b0 : decide (x6_1 < (l0.length : Int)) = true := jJ c4
    clear c4
    by_cases c5 : 0 ≤ x6_1
    ·rw [if_pos c5] at H
     have c5b0 : decide (0 ≤ x6_1) = true := jJ c5
     clear c5
     by_cases c6 : x6_1 < (l1_1.length : Int)
     ·rw [if_pos c6] at H
      have c6b0 : decide (x6_1 < (l1_1.length : Int)) = true := jJ c6
      clear c6
      have H' := jA H
      clear H
      have p144 : 0 ≤ (x6_1 : Int) := jC za
      have q144 : x6_1 < (l0.length : Int) := jC za
      obtain ⟨ad144, e144, hx144_0, hx144_1, hx144_2, hx144_3, hx144_4, hx144_5, hx144_6, hx144_7, hx144_8⟩ := at_T65 HR0.out x6_1 p144 q144
      cases e144
      replace hx144_0 := zx HB hx144_0
      replace hx144_1 := zx HB hx144_1
      replace hx144_2 := zx HB hx144_2
      replace hx144_3 := zx HB hx144_3
      replace hx144_4 := zx HB hx144_4
      replace hx144_5 := zx HB hx144_5
      replace hx144_6 := zx HB hx144_6
      replace hx144_7 := zx HB hx144_7
      replace hx144_8 := zx HB hx144_8
      replace p144 := eq_true p144
      replace q144 := eq_true q144
      have hcz7 := zc2 BK143
      have p145 : 0 ≤ (x6_1 : Int) := jC za
      have q145 : x6_1 < (l1_1.length : Int) := jC za
      obtain ⟨ad145, e145, hx145_0⟩ := Kd.at_int HR1_1.out x6_1 p145 q145
      cases e145
      replace hx145_0 := zx HB hx145_0
      replace p145 := eq_true p145
      replace q145 := eq_true q145
      go_wp2
      repeat (go_quiet (fail); try go_wp2)
      go_roundg k1
      case measure => have := HK1.out; omega
      case rel => exact ⟨(wrap64 (x5_1 + (wrap64 (((rd_T65 l0 x6_1).f7) * (rd l1_1 x6_1))))), (wrap64 (x6_1 + 1)), zz, zz, H', ⟨by have := HK1.out; omega⟩, ⟨zk BK143⟩, ⟨zb1 HB GE143⟩⟩
     ·rw [if_neg c6] at H
      exact absurd H (by simp)
    ·rw [if_neg c5] at H
     exact absurd H (by simp)
   ·rw [if_neg c4] at H
    have c4b0 : decide (x6_1 < (l0.length : Int)) = false := jQ c4
    clear c4
    obtain rfl := jK H
    go_wp2
    repeat (go_quiet (fail); try go_wp2)
    go_ret
    exact ⟨ze, zb1 HB GE143⟩

/-! ### spec_NetIn: function 27 -/
def spec_NetIn.f (k : Nat) (l0 : List (S65)) (a1_0 : Int) (l1_1 : List Int) : Option (Int × Int) := (spec_IsMagazine.f k l0 a1_0 l1_1).bind fun t147 => (if t147 = true then ((spec_l26Net.f k l0 a1_0 l1_1).bind fun t148 => (some (t148, 0))) else (some (0, 1)))
theorem spec_NetIn.mono : ∀ a0 a1 a2 k, LeO (spec_NetIn.f k a0 a1 a2) (spec_NetIn.f (k + 1) a0 a1 a2) := by
 intro a0 a1 a2 k
 unfold spec_NetIn.f
 repeat' first
   | (with_reducible exact spec_IsMagazine.mono _ _ _ _)
   | (with_reducible exact spec_l26Net.mono _ _ _ _)
   | (with_reducible exact LeO.refl _)
   | (with_reducible exact LeO.none _)
   | (with_reducible refine LeO.ite ?_ ?_)
   | (with_reducible refine LeO.bind ?_ (fun _ => ?_))
   | exact spec_IsMagazine.mono _ _ _ _
   | exact spec_l26Net.mono _ _ _ _
   | exact LeO.none _
   | refine LeO.ite ?_ ?_
   | refine LeO.bind ?_ (fun _ => ?_)
set_option maxHeartbeats 8000000 in
set_option maxRecDepth 100000 in
theorem spec_NetIn.calls (k : Nat) (A0 : Option Addr) (c0 : Nat) (l0 : List (S65)) (a1_0 : Int) (A1_1 : Option Addr) (c1_1 : Nat) (l1_1 : List Int) (r1 : Int) (r2 : Int) (w : World) (hr0 : Kd.C k65 w A0 l0.length l0) (hc0 : l0.length ≤ c0) (hr1_1 : Kd.C (Kd.int .i64) w A1_1 l1_1.length l1_1) (hc1_1 : l1_1.length ≤ c1_1) (h : spec_NetIn.f k l0 a1_0 l1_1 = some (r1, r2)) :
  Calls Try.prog 27 #[.slice A0 l0.length c0, .agg #[.int .i64 a1_0, .slice A1_1 l1_1.length c1_1]] w fun e w' => e = .returned (.tuple #[.int .i64 r1, .int .i64 r2]) ∧ Below w.heap.size w w' := by
 have hu28 := Try.underlying28
 have HR0 := jA hr0
 have HC0 := jA hc0
 clear hr0 hc0
 have HR1_1 := jA hr1_1
 have HC1_1 := jA hc1_1
 clear hr1_1 hc1_1
 have HB := jA (Below.refl w.heap.size w)
 have H := h
 unfold spec_NetIn.f at H
 clear h
 replace H := jB.mp H
 obtain ⟨t147, A30, H⟩ := H
 try dsimp only at H
 have A3 := jA A30
 clear A30
 by_cases c4 : t147 = true
 ·subst c4
  rw [if_pos rfl] at H
  replace H := jB.mp H
  obtain ⟨t148, A50, H⟩ := H
  replace H : (some (t148, 0)) = some (r1, r2) := H
  have A5 := jA A50
  clear A50
  simp only [jN, jO] at H
  obtain ⟨rfl, rfl⟩ := H
  go_enter Try.func27, Try.ntmps27
  go_wp2_with (first | ((with_reducible refine jL (N := 3) rfl ?_); refine zE 3 #[.int .i64 a1_0, .slice A1_1 l1_1.length c1_1] 28 ?_; intro gb146 hg w6 hbox hb; have BK146 := jA (hbox); have GW146 := zg0 hg HB; have GE146 := zg0 hg HB; replace HB := zS0 HB hb; clear hb hbox hg; have hcz7 := zc2 BK146) | ((with_reducible refine jD (f := 25) rfl ?_); refine zL (some 8) Try.func25 #[.slice A0 l0.length c0, .agg #[.int .i64 a1_0, .slice A1_1 l1_1.length c1_1]] ?_; (with_reducible refine (spec_IsMagazine.calls k _ _ l0 a1_0 _ _ l1_1 true _ ?side1 ?side2 ?side3 ?side4 A3.out).mono ?_); (case side1 => exact zs HR0 HB); (case side2 => exact HC0.out); (case side3 => exact zs HR1_1 HB); (case side4 => exact HC1_1.out); rintro e w8 ⟨rfl, hb⟩; refine ⟨_, rfl, ?_⟩; replace BK146 := zB BK146 hb; replace HB := zS1 HB GE146 hb; clear hb; have hcz9 := zc2 BK146) | ((with_reducible refine jD (f := 63) rfl ?_); refine zL (some 12) Try.func63 #[.slice A0 l0.length c0, .agg #[.int .i64 a1_0, .slice A1_1 l1_1.length c1_1]] ?_; (with_reducible refine (spec_l26Net.calls k _ _ l0 a1_0 _ _ l1_1 t148 _ ?side1 ?side2 ?side3 ?side4 A5.out).mono ?_); (case side1 => exact zs HR0 HB); (case side2 => exact HC0.out); (case side3 => exact zs HR1_1 HB); (case side4 => exact HC1_1.out); rintro e w10 ⟨rfl, hb⟩; refine ⟨_, rfl, ?_⟩; replace BK146 := zB BK146 hb; replace HB := zS1 HB GE146 hb; clear hb))
  go_ret2
  exact ⟨ze, zb1 HB GE146⟩
 ·replace c4 := Bool.eq_false_iff.mpr c4
  subst c4
  rw [if_neg zfalse] at H
  simp only [jN, jO] at H
  obtain ⟨rfl, rfl⟩ := H
  go_enter Try.func27, Try.ntmps27
  go_wp2_with (first | ((with_reducible refine jL (N := 3) rfl ?_); refine zE 3 #[.int .i64 a1_0, .slice A1_1 l1_1.length c1_1] 28 ?_; intro gb146 hg w11 hbox hb; have BK146 := jA (hbox); have GW146 := zg0 hg HB; have GE146 := zg0 hg HB; replace HB := zS0 HB hb; clear hb hbox hg; have hcz12 := zc2 BK146) | ((with_reducible refine jD (f := 25) rfl ?_); refine zL (some 8) Try.func25 #[.slice A0 l0.length c0, .agg #[.int .i64 a1_0, .slice A1_1 l1_1.length c1_1]] ?_; (with_reducible refine (spec_IsMagazine.calls k _ _ l0 a1_0 _ _ l1_1 false _ ?side1 ?side2 ?side3 ?side4 A3.out).mono ?_); (case side1 => exact zs HR0 HB); (case side2 => exact HC0.out); (case side3 => exact zs HR1_1 HB); (case side4 => exact HC1_1.out); rintro e w13 ⟨rfl, hb⟩; refine ⟨_, rfl, ?_⟩; replace BK146 := zB BK146 hb; replace HB := zS1 HB GE146 hb; clear hb))
  go_ret2
  exact ⟨ze, zb1 HB GE146⟩

/-! ### impl_netIn: function 64 -/
def impl_netIn.l0 : Nat → Int → List (S65) → Int → Int → Int → List Int → Option (Int)
 | 0, _, _, _, _, _, _ => none
 | k + 1, x5, x8, x9, x10, x150000, x150001 => if x10 < x9 then (if 0 ≤ x10 then (if x10 < (x8.length : Int) then (if x10 < (x150001.length : Int) then (impl_netIn.l0 k (wrap64 (x5 + (wrap64 (((rd_T65 x8 x10).f7) * (rd x150001 x10))))) x8 x9 (wrap64 (x10 + 1)) x150000 x150001) else (none)) else (none)) else (none)) else (some x5)
def impl_netIn.f (k : Nat) (l0 : List (S65)) (a1_0 : Int) (l1_1 : List Int) : Option (Int) := impl_netIn.l0 k 0 l0 (l0.length : Int) 0 a1_0 l1_1
theorem impl_netIn.mono_l : ∀ k, (∀ y0 y1 y2 y3 y4 y5, LeO (impl_netIn.l0 k y0 y1 y2 y3 y4 y5) (impl_netIn.l0 (k + 1) y0 y1 y2 y3 y4 y5))
 | 0 => fun _ _ _ _ _ _ r h => by simp [impl_netIn.l0] at h
 | k + 1 => by
  have ih0 := impl_netIn.mono_l k
  ·intro y0 y1 y2 y3 y4 y5
   unfold impl_netIn.l0
   repeat' first
   | (with_reducible exact ih0 _ _ _ _ _ _)
   | (with_reducible exact LeO.refl _)
   | (with_reducible exact LeO.none _)
   | (with_reducible refine LeO.ite ?_ ?_)
   | (with_reducible refine LeO.bind ?_ (fun _ => ?_))
   | exact ih0 _ _ _ _ _ _
   | exact LeO.none _
   | refine LeO.ite ?_ ?_
   | refine LeO.bind ?_ (fun _ => ?_)
theorem impl_netIn.mono : ∀ a0 a1 a2 k, LeO (impl_netIn.f k a0 a1 a2) (impl_netIn.f (k + 1) a0 a1 a2) := by
 intro a0 a1 a2 k
 have ih0 := impl_netIn.mono_l k
 unfold impl_netIn.f
 repeat' first
   | (with_reducible exact ih0 _ _ _ _ _ _)
   | (with_reducible exact LeO.refl _)
   | (with_reducible exact LeO.none _)
   | (with_reducible refine LeO.ite ?_ ?_)
   | (with_reducible refine LeO.bind ?_ (fun _ => ?_))
   | exact ih0 _ _ _ _ _ _
   | exact LeO.none _
   | refine LeO.ite ?_ ?_
   | refine LeO.bind ?_ (fun _ => ?_)
set_option maxHeartbeats 8000000 in
set_option maxRecDepth 100000 in
theorem impl_netIn.calls (k : Nat) (A0 : Option Addr) (c0 : Nat) (l0 : List (S65)) (a1_0 : Int) (A1_1 : Option Addr) (c1_1 : Nat) (l1_1 : List Int) (r : Int) (w : World) (hr0 : Kd.C k65 w A0 l0.length l0) (hc0 : l0.length ≤ c0) (hr1_1 : Kd.C (Kd.int .i64) w A1_1 l1_1.length l1_1) (hc1_1 : l1_1.length ≤ c1_1) (h : impl_netIn.f k l0 a1_0 l1_1 = some r) :
  Calls Try.prog 64 #[.slice A0 l0.length c0, .agg #[.int .i64 a1_0, .slice A1_1 l1_1.length c1_1]] w fun e w' => e = .returned (.int .i64 r) ∧ Below w.heap.size w w' := by
 have hu28 := Try.underlying28
 have hu65 := Try.underlying65
 have HR0 := jA hr0
 have HC0 := jA hc0
 clear hr0 hc0
 have HR1_1 := jA hr1_1
 have HC1_1 := jA hc1_1
 clear hr1_1 hc1_1
 have HB := jA (Below.refl w.heap.size w)
 have H : (impl_netIn.l0 k 0 l0 (l0.length : Int) 0 a1_0 l1_1) = some r := h
 clear h
 have H' := jA H
 clear H
 go_enter Try.func64, Try.ntmps64
 go_wp2_with (first | ((with_reducible refine jL (N := 3) rfl ?_); refine zE 3 #[.int .i64 a1_0, .slice A1_1 l1_1.length c1_1] 28 ?_; intro gb149 hg w3 hbox hb; have BK149 := jA (hbox); have GW149 := zg0 hg HB; have GE149 := zg0 hg HB; replace HB := zS0 HB hb; clear hb hbox hg))
 repeat (go_quiet (first | ((with_reducible refine jL (N := 3) rfl ?_); refine zE 3 #[.int .i64 a1_0, .slice A1_1 l1_1.length c1_1] 28 ?_; intro gb149 hg w3 hbox hb; have BK149 := jA (hbox); have GW149 := zg0 hg HB; have GE149 := zg0 hg HB; replace HB := zS0 HB hb; clear hb hbox hg)); try go_wp2_with (first | ((with_reducible refine jL (N := 3) rfl ?_); refine zE 3 #[.int .i64 a1_0, .slice A1_1 l1_1.length c1_1] 28 ?_; intro gb149 hg w3 hbox hb; have BK149 := jA (hbox); have GW149 := zg0 hg HB; have GE149 := zg0 hg HB; replace HB := zS0 HB hb; clear hb hbox hg)))
 go_loopg [5, 10] k (fun kq v5 v10 w' => ∃ (x5_1 : Int) (x10_1 : Int), v5 = .int .i64 x5_1 ∧ v10 = .int .i64 x10_1 ∧ Aside0 (impl_netIn.l0 kq x5_1 l0 (l0.length : Int) x10_1 a1_0 l1_1 = some r) ∧ Aside0 (kq ≤ k) ∧ Aside0 (w'.heap[gb149]? = some (.cells #[.int .i64 a1_0, (.slice A1_1 l1_1.length c1_1)] 28 (0, 0))) ∧ Aside0 (Below w.heap.size w w'))
 case atStart => exact ⟨(0), (0), zz, zz, H', ⟨Nat.le_refl _⟩, ⟨zk BK149⟩, ⟨zb1 HB GE149⟩⟩
 case round =>
  clear H'
  try clear c1
  try clear p2
  obtain ⟨x5_1, x10_1, rfl, rfl, HA, HK1, BK149, HB⟩ := hrel
  cases gk with
  | zero => exact absurd HA.out (by simp [impl_netIn.l0])
  | succ k1 =>
   have H := HA.out
   clear HA
   simp only [impl_netIn.l0] at H
   by_cases c4 : x10_1 < (l0.length : Int)
   ·rw [if_pos c4] at H
    have c4b0 : decide (x10_1 < (l0.length : Int)) = true := jJ c4
    clear c4
    by_cases c5 : 0 ≤ x10_1
    ·rw [if_pos c5] at H
     have c5b0 : decide (0 ≤ x10_1) = true := jJ c5
     clear c5
     by_cases c6 : x10_1 < (l0.length : Int)
     ·rw [if_pos c6] at H
      have c6b0 : decide (x10_1 < (l0.length : Int)) = true := jJ c6
      clear c6
      by_cases c7 : x10_1 < (l1_1.length : Int)
      ·rw [if_pos c7] at H
       have c7b0 : decide (x10_1 < (l1_1.length : Int)) = true := jJ c7
       clear c7
       have H' := jA H
       clear H
       have p150 : 0 ≤ (x10_1 : Int) := jC za
       have q150 : x10_1 < (l0.length : Int) := jC za
       obtain ⟨ad150, e150, hx150_0, hx150_1, hx150_2, hx150_3, hx150_4, hx150_5, hx150_6, hx150_7, hx150_8⟩ := at_T65 HR0.out x10_1 p150 q150
       cases e150
       replace hx150_0 := zx HB hx150_0
       replace hx150_1 := zx HB hx150_1
       replace hx150_2 := zx HB hx150_2
       replace hx150_3 := zx HB hx150_3
       replace hx150_4 := zx HB hx150_4
       replace hx150_5 := zx HB hx150_5
       replace hx150_6 := zx HB hx150_6
       replace hx150_7 := zx HB hx150_7
       replace hx150_8 := zx HB hx150_8
       replace p150 := eq_true p150
       replace q150 := eq_true q150
       go_wp2_with (first | ((with_reducible refine jL (N := 7) rfl ?_); refine zE 7 #[.string (⟨#[]⟩ : ByteArray), .int .i64 0, .int .i64 0, .int .i64 0, .int .i64 0, .int .i64 0, .int .i64 0, .int .i64 0, .int .i64 0] 65 ?_; intro gb151 hg w8 hbox hb; have BK151 := jA (hbox); have GW151 := zg1 hg HB GE149; have GE151 := zg1 hg HB GE149; replace HB := zS1 HB GE149 hb; have NB149_151 := zn hg BK149; replace BK149 := zB BK149 hb; have NB151_149 := jA NB149_151.out.symm; clear hb hbox hg; have hnb9 := NB151_149.out; have hnc9 := NB149_151.out; have hcz10 := zc9 BK151; have hcz11 := zc2 BK149; have p152 : 0 ≤ (x10_1 : Int) := jC za; have q152 : x10_1 < (l1_1.length : Int) := jC za; obtain ⟨ad152, e152, hx152_0⟩ := Kd.at_int HR1_1.out x10_1 p152 q152; cases e152; have hn152_0 : ad152.block ≠ gb151 := zd hx152_0 GW151; have hn152_1 : ad152.block ≠ gb151 := zd hx152_0 GW151; have hn152_2 : ad152.block ≠ gb151 := zd hx152_0 GW151; have hn152_3 : ad152.block ≠ gb151 := zd hx152_0 GW151; have hn152_4 : ad152.block ≠ gb151 := zd hx152_0 GW151; have hn152_5 : ad152.block ≠ gb151 := zd hx152_0 GW151; have hn152_6 : ad152.block ≠ gb151 := zd hx152_0 GW151; have hn152_7 : ad152.block ≠ gb151 := zd hx152_0 GW151; have hn152_8 : ad152.block ≠ gb151 := zd hx152_0 GW151; replace hx152_0 := zx HB hx152_0; replace hx152_0 := (jP (p := ⟨gb151, 0, none⟩) (zf hn152_0) (.string ((rd_T65 l0 x10_1).f0))).trans hx152_0; replace hx152_0 := (jP (p := ⟨gb151, 1, none⟩) (zf hn152_1) (.int .i64 ((rd_T65 l0 x10_1).f1))).trans hx152_0; replace hx152_0 := (jP (p := ⟨gb151, 2, none⟩) (zf hn152_2) (.int .i64 ((rd_T65 l0 x10_1).f2))).trans hx152_0; replace hx152_0 := (jP (p := ⟨gb151, 3, none⟩) (zf hn152_3) (.int .i64 ((rd_T65 l0 x10_1).f3))).trans hx152_0; replace hx152_0 := (jP (p := ⟨gb151, 4, none⟩) (zf hn152_4) (.int .i64 ((rd_T65 l0 x10_1).f4))).trans hx152_0; replace hx152_0 := (jP (p := ⟨gb151, 5, none⟩) (zf hn152_5) (.int .i64 ((rd_T65 l0 x10_1).f5))).trans hx152_0; replace hx152_0 := (jP (p := ⟨gb151, 6, none⟩) (zf hn152_6) (.int .i64 ((rd_T65 l0 x10_1).f6))).trans hx152_0; replace hx152_0 := (jP (p := ⟨gb151, 7, none⟩) (zf hn152_7) (.int .i64 ((rd_T65 l0 x10_1).f7))).trans hx152_0; replace hx152_0 := (jP (p := ⟨gb151, 8, none⟩) (zf hn152_8) (.int .i64 ((rd_T65 l0 x10_1).f8))).trans hx152_0; clear hn152_0; clear hn152_1; clear hn152_2; clear hn152_3; clear hn152_4; clear hn152_5; clear hn152_6; clear hn152_7; clear hn152_8; replace p152 := eq_true p152; replace q152 := eq_true q152))
       repeat (go_quiet (first | ((with_reducible refine jL (N := 7) rfl ?_); refine zE 7 #[.string (⟨#[]⟩ : ByteArray), .int .i64 0, .int .i64 0, .int .i64 0, .int .i64 0, .int .i64 0, .int .i64 0, .int .i64 0, .int .i64 0] 65 ?_; intro gb151 hg w8 hbox hb; have BK151 := jA (hbox); have GW151 := zg1 hg HB GE149; have GE151 := zg1 hg HB GE149; replace HB := zS1 HB GE149 hb; have NB149_151 := zn hg BK149; replace BK149 := zB BK149 hb; have NB151_149 := jA NB149_151.out.symm; clear hb hbox hg; have hnb9 := NB151_149.out; have hnc9 := NB149_151.out; have hcz10 := zc9 BK151; have hcz11 := zc2 BK149; have p152 : 0 ≤ (x10_1 : Int) := jC za; have q152 : x10_1 < (l1_1.length : Int) := jC za; obtain ⟨ad152, e152, hx152_0⟩ := Kd.at_int HR1_1.out x10_1 p152 q152; cases e152; have hn152_0 : ad152.block ≠ gb151 := zd hx152_0 GW151; have hn152_1 : ad152.block ≠ gb151 := zd hx152_0 GW151; have hn152_2 : ad152.block ≠ gb151 := zd hx152_0 GW151; have hn152_3 : ad152.block ≠ gb151 := zd hx152_0 GW151; have hn152_4 : ad152.block ≠ gb151 := zd hx152_0 GW151; have hn152_5 : ad152.block ≠ gb151 := zd hx152_0 GW151; have hn152_6 : ad152.block ≠ gb151 := zd hx152_0 GW151; have hn152_7 : ad152.block ≠ gb151 := zd hx152_0 GW151; have hn152_8 : ad152.block ≠ gb151 := zd hx152_0 GW151; replace hx152_0 := zx HB hx152_0; replace hx152_0 := (jP (p := ⟨gb151, 0, none⟩) (zf hn152_0) (.string ((rd_T65 l0 x10_1).f0))).trans hx152_0; replace hx152_0 := (jP (p := ⟨gb151, 1, none⟩) (zf hn152_1) (.int .i64 ((rd_T65 l0 x10_1).f1))).trans hx152_0; replace hx152_0 := (jP (p := ⟨gb151, 2, none⟩) (zf hn152_2) (.int .i64 ((rd_T65 l0 x10_1).f2))).trans hx152_0; replace hx152_0 := (jP (p := ⟨gb151, 3, none⟩) (zf hn152_3) (.int .i64 ((rd_T65 l0 x10_1).f3))).trans hx152_0; replace hx152_0 := (jP (p := ⟨gb151, 4, none⟩) (zf hn152_4) (.int .i64 ((rd_T65 l0 x10_1).f4))).trans hx152_0; replace hx152_0 := (jP (p := ⟨gb151, 5, none⟩) (zf hn152_5) (.int .i64 ((rd_T65 l0 x10_1).f5))).trans hx152_0; replace hx152_0 := (jP (p := ⟨gb151, 6, none⟩) (zf hn152_6) (.int .i64 ((rd_T65 l0 x10_1).f6))).trans hx152_0; replace hx152_0 := (jP (p := ⟨gb151, 7, none⟩) (zf hn152_7) (.int .i64 ((rd_T65 l0 x10_1).f7))).trans hx152_0; replace hx152_0 := (jP (p := ⟨gb151, 8, none⟩) (zf hn152_8) (.int .i64 ((rd_T65 l0 x10_1).f8))).trans hx152_0; clear hn152_0; clear hn152_1; clear hn152_2; clear hn152_3; clear hn152_4; clear hn152_5; clear hn152_6; clear hn152_7; clear hn152_8; replace p152 := eq_true p152; replace q152 := eq_true q152)); try go_wp2_with (first | ((with_reducible refine jL (N := 7) rfl ?_); refine zE 7 #[.string (⟨#[]⟩ : ByteArray), .int .i64 0, .int .i64 0, .int .i64 0, .int .i64 0, .int .i64 0, .int .i64 0, .int .i64 0, .int .i64 0] 65 ?_; intro gb151 hg w8 hbox hb; have BK151 := jA (hbox); have GW151 := zg1 hg HB GE149; have GE151 := zg1 hg HB GE149; replace HB := zS1 HB GE149 hb; have NB149_151 := zn hg BK149; replace BK149 := zB BK149 hb; have NB151_149 := jA NB149_151.out.symm; clear hb hbox hg; have hnb9 := NB151_149.out; have hnc9 := NB149_151.out; have hcz10 := zc9 BK151; have hcz11 := zc2 BK149; have p152 : 0 ≤ (x10_1 : Int) := jC za; have q152 : x10_1 < (l1_1.length : Int) := jC za; obtain ⟨ad152, e152, hx152_0⟩ := Kd.at_int HR1_1.out x10_1 p152 q152; cases e152; have hn152_0 : ad152.block ≠ gb151 := zd hx152_0 GW151; have hn152_1 : ad152.block ≠ gb151 := zd hx152_0 GW151; have hn152_2 : ad152.block ≠ gb151 := zd hx152_0 GW151; have hn152_3 : ad152.block ≠ gb151 := zd hx152_0 GW151; have hn152_4 : ad152.block ≠ gb151 := zd hx152_0 GW151; have hn152_5 : ad152.block ≠ gb151 := zd hx152_0 GW151; have hn152_6 : ad152.block ≠ gb151 := zd hx152_0 GW151; have hn152_7 : ad152.block ≠ gb151 := zd hx152_0 GW151; have hn152_8 : ad152.block ≠ gb151 := zd hx152_0 GW151; replace hx152_0 := zx HB hx152_0; replace hx152_0 := (jP (p := ⟨gb151, 0, none⟩) (zf hn152_0) (.string ((rd_T65 l0 x10_1).f0))).trans hx152_0; replace hx152_0 := (jP (p := ⟨gb151, 1, none⟩) (zf hn152_1) (.int .i64 ((rd_T65 l0 x10_1).f1))).trans hx152_0; replace hx152_0 := (jP (p := ⟨gb151, 2, none⟩) (zf hn152_2) (.int .i64 ((rd_T65 l0 x10_1).f2))).trans hx152_0; replace hx152_0 := (jP (p := ⟨gb151, 3, none⟩) (zf hn152_3) (.int .i64 ((rd_T65 l0 x10_1).f3))).trans hx152_0; replace hx152_0 := (jP (p := ⟨gb151, 4, none⟩) (zf hn152_4) (.int .i64 ((rd_T65 l0 x10_1).f4))).trans hx152_0; replace hx152_0 := (jP (p := ⟨gb151, 5, none⟩) (zf hn152_5) (.int .i64 ((rd_T65 l0 x10_1).f5))).trans hx152_0; replace hx152_0 := (jP (p := ⟨gb151, 6, none⟩) (zf hn152_6) (.int .i64 ((rd_T65 l0 x10_1).f6))).trans hx152_0; replace hx152_0 := (jP (p := ⟨gb151, 7, none⟩) (zf hn152_7) (.int .i64 ((rd_T65 l0 x10_1).f7))).trans hx152_0; replace hx152_0 := (jP (p := ⟨gb151, 8, none⟩) (zf hn152_8) (.int .i64 ((rd_T65 l0 x10_1).f8))).trans hx152_0; clear hn152_0; clear hn152_1; clear hn152_2; clear hn152_3; clear hn152_4; clear hn152_5; clear hn152_6; clear hn152_7; clear hn152_8; replace p152 := eq_true p152; replace q152 := eq_true q152)))
       go_roundg k1
       case measure => have := HK1.out; omega
       case rel => exact ⟨(wrap64 (x5_1 + (wrap64 (((rd_T65 l0 x10_1).f7) * (rd l1_1 x10_1))))), (wrap64 (x10_1 + 1)), zz, zz, H', ⟨by have := HK1.out; omega⟩, ⟨zQ1 BK149 NB149_151⟩, ⟨zb2 HB GE149 GE151⟩⟩
      ·rw [if_neg c7] at H
       exact absurd H (by simp)
     ·rw [if_neg c6] at H
      exact absurd H (by simp)
    ·rw [if_neg c5] at H
     exact absurd H (by simp)
   ·rw [if_neg c4] at H
    have c4b0 : decide (x10_1 < (l0.length : Int)) = false := jQ c4
    clear c4
    obtain rfl := jK H
    go_wp2
    repeat (go_quiet (fail); try go_wp2)
    go_ret
    exact ⟨ze, zb1 HB GE149⟩

end Go.Proofs.Ytdgglhfnlljmeaa.PFnMagazines
