/- Functions and contracts that FnReached reaches (20 of 22). -/
import Derived.Test.YthieppjmjgijfaaQFnReachedx18
namespace Go.Proofs.Ythieppjmjgijfaa.PFnReached
open Go.RowKit Go.Proofs.YthieppjmjgijfaaW.PrintWords Go.Proofs.YthieppjmjgijfaaW.PrintLast Go.Proofs.YthieppjmjgijfaaW.PrintMore
attribute [local go_sem] max2_int min2_int max_two min_two max_three min_three max_four min_four   -- for this text's walks alone
set_option linter.unusedVariables false
set_option linter.unusedSimpArgs false

/-! ### impl_mayFire: function 89 -/
def impl_mayFire.f (a0_0 : Bool) (a0_1 : Bool) (a0_2 : Bool) (a0_3 : Bool) (a0_4 : Bool) (a0_5 : Int) : Option (Bool) := if a0_2 = true then (some (!a0_3)) else (some false)
set_option maxHeartbeats 8000000 in
set_option maxRecDepth 100000 in
theorem impl_mayFire.calls (a0_0 : Bool) (a0_1 : Bool) (a0_2 : Bool) (a0_3 : Bool) (a0_4 : Bool) (a0_5 : Int) (r : Bool) (w : World) (h : impl_mayFire.f a0_0 a0_1 a0_2 a0_3 a0_4 a0_5 = some r) :
  Calls Try.prog 89 #[.agg #[.bool a0_0, .bool a0_1, .bool a0_2, .bool a0_3, .bool a0_4, .int .i64 a0_5]] w fun e w' => e = .returned (.bool r) ∧ Below w.heap.size w w' := by
 have hu23 := Try.underlying23
 have HB := jA (Below.refl w.heap.size w)
 have H : (if a0_2 = true then (some (!a0_3)) else (some false)) = some r := h
 clear h
 by_cases c2 : a0_2 = true
 ·subst c2
  rw [if_pos rfl] at H
  obtain rfl := jN H
  go_enter Try.func89, Try.ntmps89
  go_wp2_with (first | ((with_reducible refine jK (N := 1) rfl ?_); refine zE 1 #[.bool a0_0, .bool a0_1, .bool true, .bool a0_3, .bool a0_4, .int .i64 a0_5] 23 ?_; intro gb639 hg w3 hbox hb; have BK639 := jA (hbox); have GW639 := zg0 hg HB; have GE639 := zg0 hg HB; replace HB := zS0 HB hb; clear hb hbox hg; have hcz4 := zc6 BK639))
  go_ret
  exact ⟨ze, zb1 HB GE639⟩
 ·replace c2 := Bool.eq_false_iff.mpr c2
  subst c2
  rw [if_neg zfalse] at H
  obtain rfl := jN H
  go_enter Try.func89, Try.ntmps89
  go_wp2_with (first | ((with_reducible refine jK (N := 1) rfl ?_); refine zE 1 #[.bool a0_0, .bool a0_1, .bool false, .bool a0_3, .bool a0_4, .int .i64 a0_5] 23 ?_; intro gb639 hg w5 hbox hb; have BK639 := jA (hbox); have GW639 := zg0 hg HB; have GE639 := zg0 hg HB; replace HB := zS0 HB hb; clear hb hbox hg; have hcz6 := zc6 BK639))
  go_ret
  exact ⟨ze, zb1 HB GE639⟩

/-! ### impl_canFire: function 75 -/
def impl_canFire.l0 : Nat → List Int → Int → Int → Option (Bool)
 | 0, _, _, _ => none
 | k + 1, x9, x10, x11 => if x11 < x10 then (if 0 ≤ x11 then (if x11 < (x9.length : Int) then ((impl_controllerWith.f (rd x9 x11)).bind fun bt645 => ((impl_mayFire.f bt645.1 bt645.2.1 bt645.2.2.1 bt645.2.2.2.1 bt645.2.2.2.2.1 bt645.2.2.2.2.2).bind fun t651 => (if t651 = true then (some true) else (impl_canFire.l0 k x9 x10 (wrap64 (x11 + 1)))))) else (none)) else (none)) else (some false)
def impl_canFire.f (k : Nat) (a0_0 : Bool) (a0_1 : Bool) (a0_2 : Bool) (a0_3 : Bool) (a0_4 : Bool) (a0_5 : Int) (l1 : List Int) : Option (Bool) := (impl_reachedFrom.f k a0_0 a0_1 a0_2 a0_3 a0_4 a0_5 l1).bind fun t641 => (impl_canFire.l0 k t641 (t641.length : Int) 0)
theorem impl_canFire.mono_l : ∀ k, (∀ y0 y1 y2, LeO (impl_canFire.l0 k y0 y1 y2) (impl_canFire.l0 (k + 1) y0 y1 y2))
 | 0 => fun _ _ _ r h => by simp [impl_canFire.l0] at h
 | k + 1 => by
  have ih0 := impl_canFire.mono_l k
  ·intro y0 y1 y2
   unfold impl_canFire.l0
   repeat' first
   | (with_reducible exact ih0 _ _ _)
   | (with_reducible exact impl_reachedFrom.mono _ _ _ _ _ _ _ _)
   | (with_reducible exact LeO.refl _)
   | (with_reducible exact LeO.none _)
   | (with_reducible refine LeO.ite ?_ ?_)
   | (with_reducible refine LeO.bind ?_ (fun _ => ?_))
   | exact ih0 _ _ _
   | exact impl_reachedFrom.mono _ _ _ _ _ _ _ _
   | exact LeO.none _
   | refine LeO.ite ?_ ?_
   | refine LeO.bind ?_ (fun _ => ?_)
theorem impl_canFire.mono : ∀ a0 a1 a2 a3 a4 a5 a6 k, LeO (impl_canFire.f k a0 a1 a2 a3 a4 a5 a6) (impl_canFire.f (k + 1) a0 a1 a2 a3 a4 a5 a6) := by
 intro a0 a1 a2 a3 a4 a5 a6 k
 have ih0 := impl_canFire.mono_l k
 unfold impl_canFire.f
 repeat' first
   | (with_reducible exact ih0 _ _ _)
   | (with_reducible exact impl_reachedFrom.mono _ _ _ _ _ _ _ _)
   | (with_reducible exact LeO.refl _)
   | (with_reducible exact LeO.none _)
   | (with_reducible refine LeO.ite ?_ ?_)
   | (with_reducible refine LeO.bind ?_ (fun _ => ?_))
   | exact ih0 _ _ _
   | exact impl_reachedFrom.mono _ _ _ _ _ _ _ _
   | exact LeO.none _
   | refine LeO.ite ?_ ?_
   | refine LeO.bind ?_ (fun _ => ?_)
set_option maxHeartbeats 8000000 in
set_option maxRecDepth 100000 in
theorem impl_canFire.calls (k : Nat) (a0_0 : Bool) (a0_1 : Bool) (a0_2 : Bool) (a0_3 : Bool) (a0_4 : Bool) (a0_5 : Int) (A1 : Option Addr) (c1 : Nat) (l1 : List Int) (r : Bool) (w : World) (hr1 : Kd.C (Kd.int .i64) w A1 l1.length l1) (hc1 : l1.length ≤ c1) (h : impl_canFire.f k a0_0 a0_1 a0_2 a0_3 a0_4 a0_5 l1 = some r) :
  Calls Try.prog 75 #[.agg #[.bool a0_0, .bool a0_1, .bool a0_2, .bool a0_3, .bool a0_4, .int .i64 a0_5], .slice A1 l1.length c1] w fun e w' => e = .returned (.bool r) ∧ Below w.heap.size w w' := by
 have hu23 := Try.underlying23
 have HR1 := jA hr1
 have HC1 := jA hc1
 clear hr1 hc1
 have HB := jA (Below.refl w.heap.size w)
 have H := h
 unfold impl_canFire.f at H
 clear h
 replace H := jD.mp H
 obtain ⟨t641, A30, H⟩ := H
 try dsimp only at H
 have A3 := jA A30
 clear A30
 have H' := jA H
 clear H
 go_enter Try.func75, Try.ntmps75
 go_wp2_with (first | ((with_reducible refine jK (N := 2) rfl ?_); refine zE 2 #[.bool a0_0, .bool a0_1, .bool a0_2, .bool a0_3, .bool a0_4, .int .i64 a0_5] 23 ?_; intro gb640 hg w4 hbox hb; have BK640 := jA (hbox); have GW640 := zg0 hg HB; have GE640 := zg0 hg HB; replace HB := zS0 HB hb; clear hb hbox hg; have hcz5 := zc6 BK640) | ((with_reducible refine jH (f := 66) rfl ?_); refine zL (some 9) Try.func66 #[.agg #[.bool a0_0, .bool a0_1, .bool a0_2, .bool a0_3, .bool a0_4, .int .i64 a0_5], .slice A1 l1.length c1] ?_; (with_reducible refine (impl_reachedFrom.calls k a0_0 a0_1 a0_2 a0_3 a0_4 a0_5 _ _ l1 t641 _ ?side1 ?side2 A3.out).mono ?_); (case side1 => exact zs HR1 HB); (case side2 => exact HC1.out); rintro e w6 ⟨v642, rfl, ho0, hb⟩; refine ⟨_, rfl, ?_⟩; have HO643 := jA (jZ ho0 (jP (zb1 HB GE640))); replace BK640 := zB BK640 hb; replace HB := zS1 HB GE640 hb; (try clear hb); (try clear hb2); (try clear hk); (try clear hi); (try clear ho0); obtain ⟨Ao7, co7, eo7⟩ := Kd.R_slice HO643.out; subst eo7))
 go_loopg [11] k (fun kq v11 w' => ∃ (x11_1 : Int), v11 = .int .i64 x11_1 ∧ Aside0 (impl_canFire.l0 kq t641 (t641.length : Int) x11_1 = some r) ∧ Aside0 (kq ≤ k) ∧ Aside0 (Kd.R (Kd.int .i64) 2 w' w.heap.size (fun _ => True) (.slice Ao7 t641.length co7) t641) ∧ Aside0 (w'.heap[gb640]? = some (.cells #[.bool a0_0, .bool a0_1, .bool a0_2, .bool a0_3, .bool a0_4, .int .i64 a0_5] 23 (0, 0))) ∧ Aside0 (Below w.heap.size w w'))
 case atStart => exact ⟨(0), zz, H', ⟨Nat.le_refl _⟩, ⟨zo HO643⟩, ⟨zk BK640⟩, ⟨zb1 HB GE640⟩⟩
 case round =>
  clear H'
  try clear c1
  try clear p2
  try clear c6
  try clear c7
  try clear hcz5
  obtain ⟨x11_1, rfl, HA, HK1, HO_9, BK640, HB⟩ := hrel
  cases gk with
  | zero => exact absurd HA.out (by simp [impl_canFire.l0])
  | succ k1 =>
   have H := HA.out
   clear HA
   simp only [impl_canFire.l0] at H
   by_cases c8 : x11_1 < (t641.length : Int)
   ·rw [if_pos c8] at H
    have c8b0 : decide (x11_1 < (t641.length : Int)) = true := jJ c8
    clear c8
    by_cases c9 : 0 ≤ x11_1
    ·rw [if_pos c9] at H
     have c9b0 : decide (0 ≤ x11_1) = true := jJ c9
     clear c9
     by_cases c10 : x11_1 < (t641.length : Int)
     ·rw [if_pos c10] at H
      have c10b0 : decide (x11_1 < (t641.length : Int)) = true := jJ c10
      clear c10
      replace H := jD.mp H
      obtain ⟨⟨t645, t646, t647, t648, t649, t650⟩, A110, H⟩ := H
      replace H : ((impl_mayFire.f t645 t646 t647 t648 t649 t650).bind fun t651 => (if t651 = true then (some true) else (impl_canFire.l0 k1 t641 (t641.length : Int) (wrap64 (x11_1 + 1))))) = some r := H
      have A11 := jA A110
      clear A110
      replace H := jD.mp H
      obtain ⟨t651, A120, H⟩ := H
      replace H : (if t651 = true then (some true) else (impl_canFire.l0 k1 t641 (t641.length : Int) (wrap64 (x11_1 + 1)))) = some r := H
      have A12 := jA A120
      clear A120
      by_cases c13 : t651 = true
      ·subst c13
       rw [if_pos rfl] at H
       obtain rfl := jN H
       have p644 : 0 ≤ (x11_1 : Int) := jB za
       have q644 : x11_1 < (t641.length : Int) := jB za
       obtain ⟨ad644, e644, hx644_0⟩ := jR (jO HO_9.out).2.2 x11_1 p644 q644
       cases e644
       replace p644 := eq_true p644
       replace q644 := eq_true q644
       go_wp2_with (first | ((with_reducible refine jH (f := 50) rfl ?_); refine zL (some 16) Try.func50 #[.int .i64 (rd t641 x11_1)] ?_; (with_reducible refine (impl_controllerWith.calls (rd t641 x11_1) t645 t646 t647 t648 t649 t650 _ A11.out).mono ?_); rintro e w14 ⟨rfl, hb⟩; refine ⟨_, rfl, ?_⟩; replace HO_9 := jA (jQ (zo HO_9) hb); replace BK640 := zB BK640 hb; replace HB := zS1 HB GE640 hb; clear hb) | ((with_reducible refine jH (f := 89) rfl ?_); refine zL (some 17) Try.func89 #[.agg #[.bool t645, .bool t646, .bool t647, .bool t648, .bool t649, .int .i64 t650]] ?_; (with_reducible refine (impl_mayFire.calls t645 t646 t647 t648 t649 t650 true _ A12.out).mono ?_); rintro e w15 ⟨rfl, hb⟩; refine ⟨_, rfl, ?_⟩; replace HO_9 := jA (jQ (zo HO_9) hb); replace BK640 := zB BK640 hb; replace HB := zS1 HB GE640 hb; clear hb))
       go_ret
       exact ⟨ze, zb1 HB GE640⟩
      ·replace c13 := Bool.eq_false_iff.mpr c13
       subst c13
       rw [if_neg zfalse] at H
       have H' := jA H
       clear H
       have p644 : 0 ≤ (x11_1 : Int) := jB za
       have q644 : x11_1 < (t641.length : Int) := jB za
       obtain ⟨ad644, e644, hx644_0⟩ := jR (jO HO_9.out).2.2 x11_1 p644 q644
       cases e644
       replace p644 := eq_true p644
       replace q644 := eq_true q644
       go_wp2_with (first | ((with_reducible refine jH (f := 50) rfl ?_); refine zL (some 16) Try.func50 #[.int .i64 (rd t641 x11_1)] ?_; (with_reducible refine (impl_controllerWith.calls (rd t641 x11_1) t645 t646 t647 t648 t649 t650 _ A11.out).mono ?_); rintro e w16 ⟨rfl, hb⟩; refine ⟨_, rfl, ?_⟩; replace HO_9 := jA (jQ (zo HO_9) hb); replace BK640 := zB BK640 hb; replace HB := zS1 HB GE640 hb; clear hb) | ((with_reducible refine jH (f := 89) rfl ?_); refine zL (some 17) Try.func89 #[.agg #[.bool t645, .bool t646, .bool t647, .bool t648, .bool t649, .int .i64 t650]] ?_; (with_reducible refine (impl_mayFire.calls t645 t646 t647 t648 t649 t650 false _ A12.out).mono ?_); rintro e w17 ⟨rfl, hb⟩; refine ⟨_, rfl, ?_⟩; replace HO_9 := jA (jQ (zo HO_9) hb); replace BK640 := zB BK640 hb; replace HB := zS1 HB GE640 hb; clear hb))
       go_roundg k1
       case measure => have := HK1.out; omega
       case rel => exact ⟨(wrap64 (x11_1 + 1)), zz, H', ⟨by have := HK1.out; omega⟩, ⟨zo HO_9⟩, ⟨zk BK640⟩, ⟨zb1 HB GE640⟩⟩
     ·rw [if_neg c10] at H
      exact absurd H (by simp)
    ·rw [if_neg c9] at H
     exact absurd H (by simp)
   ·rw [if_neg c8] at H
    have c8b0 : decide (x11_1 < (t641.length : Int)) = false := jW c8
    clear c8
    obtain rfl := jN H
    go_wp2
    go_ret
    exact ⟨ze, zb1 HB GE640⟩

/-! ### impl_CanFire: function 37 -/
def impl_CanFire.f (k : Nat) (a0_0 : Bool) (a0_1 : Bool) (a0_2 : Bool) (a0_3 : Bool) (a0_4 : Bool) (a0_5 : Int) (l1 : List Int) : Option (Bool × Int) := (impl_IsSound.f a0_0 a0_1 a0_2 a0_3 a0_4 a0_5).bind fun t653 => (if t653 = true then ((impl_isHand.f k l1).bind fun t654 => (if t654 = true then ((impl_canFire.f k a0_0 a0_1 a0_2 a0_3 a0_4 a0_5 l1).bind fun t655 => (some (t655, 0))) else (some (false, 1)))) else (some (false, 1)))
theorem impl_CanFire.mono : ∀ a0 a1 a2 a3 a4 a5 a6 k, LeO (impl_CanFire.f k a0 a1 a2 a3 a4 a5 a6) (impl_CanFire.f (k + 1) a0 a1 a2 a3 a4 a5 a6) := by
 intro a0 a1 a2 a3 a4 a5 a6 k
 unfold impl_CanFire.f
 repeat' first
   | (with_reducible exact impl_canFire.mono _ _ _ _ _ _ _ _)
   | (with_reducible exact impl_isHand.mono _ _)
   | (with_reducible exact LeO.refl _)
   | (with_reducible exact LeO.none _)
   | (with_reducible refine LeO.ite ?_ ?_)
   | (with_reducible refine LeO.bind ?_ (fun _ => ?_))
   | exact impl_canFire.mono _ _ _ _ _ _ _ _
   | exact impl_isHand.mono _ _
   | exact LeO.none _
   | refine LeO.ite ?_ ?_
   | refine LeO.bind ?_ (fun _ => ?_)
set_option maxHeartbeats 8000000 in
set_option maxRecDepth 100000 in
theorem impl_CanFire.calls (k : Nat) (a0_0 : Bool) (a0_1 : Bool) (a0_2 : Bool) (a0_3 : Bool) (a0_4 : Bool) (a0_5 : Int) (A1 : Option Addr) (c1 : Nat) (l1 : List Int) (r1 : Bool) (r2 : Int) (w : World) (hr1 : Kd.C (Kd.int .i64) w A1 l1.length l1) (hc1 : l1.length ≤ c1) (h : impl_CanFire.f k a0_0 a0_1 a0_2 a0_3 a0_4 a0_5 l1 = some (r1, r2)) :
  Calls Try.prog 37 #[.agg #[.bool a0_0, .bool a0_1, .bool a0_2, .bool a0_3, .bool a0_4, .int .i64 a0_5], .slice A1 l1.length c1] w fun e w' => e = .returned (.tuple #[.bool r1, .int .i64 r2]) ∧ Below w.heap.size w w' := by
 have hu23 := Try.underlying23
 have HR1 := jA hr1
 have HC1 := jA hc1
 clear hr1 hc1
 have HB := jA (Below.refl w.heap.size w)
 have H := h
 unfold impl_CanFire.f at H
 clear h
 replace H := jD.mp H
 obtain ⟨t653, A30, H⟩ := H
 try dsimp only at H
 have A3 := jA A30
 clear A30
 by_cases c4 : t653 = true
 ·subst c4
  rw [if_pos rfl] at H
  replace H := jD.mp H
  obtain ⟨t654, A50, H⟩ := H
  try dsimp only at H
  have A5 := jA A50
  clear A50
  by_cases c6 : t654 = true
  ·subst c6
   rw [if_pos rfl] at H
   replace H := jD.mp H
   obtain ⟨t655, A70, H⟩ := H
   replace H : (some (t655, 0)) = some (r1, r2) := H
   have A7 := jA A70
   clear A70
   simp only [jI, jM] at H
   obtain ⟨rfl, rfl⟩ := H
   go_enter Try.func37, Try.ntmps37
   go_wp2_with (first | ((with_reducible refine jK (N := 2) rfl ?_); refine zE 2 #[.bool a0_0, .bool a0_1, .bool a0_2, .bool a0_3, .bool a0_4, .int .i64 a0_5] 23 ?_; intro gb652 hg w8 hbox hb; have BK652 := jA (hbox); have GW652 := zg0 hg HB; have GE652 := zg0 hg HB; replace HB := zS0 HB hb; clear hb hbox hg; have hcz9 := zc6 BK652) | ((with_reducible refine jH (f := 27) rfl ?_); refine zL (some 7) Try.func27 #[.agg #[.bool a0_0, .bool a0_1, .bool a0_2, .bool a0_3, .bool a0_4, .int .i64 a0_5]] ?_; (with_reducible refine (impl_IsSound.calls a0_0 a0_1 a0_2 a0_3 a0_4 a0_5 true _ A3.out).mono ?_); rintro e w10 ⟨rfl, hb⟩; refine ⟨_, rfl, ?_⟩; replace BK652 := zB BK652 hb; replace HB := zS1 HB GE652 hb; clear hb) | (go_at_call 56; (with_reducible refine (impl_isHand.calls k _ _ l1 true _ ?side1 ?side2 A5.out).mono ?_); (case side1 => exact zs HR1 HB); (case side2 => exact HC1.out); rintro e w' ⟨rfl, ⟨nd, rfl⟩⟩; have hcz11 := zc6 BK652) | ((with_reducible refine jH (f := 75) rfl ?_); refine zL (some 16) Try.func75 #[.agg #[.bool a0_0, .bool a0_1, .bool a0_2, .bool a0_3, .bool a0_4, .int .i64 a0_5], .slice A1 l1.length c1] ?_; (with_reducible refine (impl_canFire.calls k a0_0 a0_1 a0_2 a0_3 a0_4 a0_5 _ _ l1 t655 _ ?side1 ?side2 A7.out).mono ?_); (case side1 => repeat (first | exact HR1.out | exact (Kd.C_below HR1.out (zb1 HB GE652)) | (with_reducible refine Kd.C_alloc ?_ _) | (with_reducible refine Kd.C_drewN ?_ _) | (with_reducible refine Kd.C_drew ?_))); (case side2 => exact HC1.out); rintro e w12 ⟨rfl, hb⟩; refine ⟨_, rfl, ?_⟩; replace BK652 := zB BK652 hb; replace HB := zS1 HB GE652 hb; clear hb))
   go_ret2
   exact ⟨ze, zb1 HB GE652⟩
  ·replace c6 := Bool.eq_false_iff.mpr c6
   subst c6
   rw [if_neg zfalse] at H
   simp only [jI, jM] at H
   obtain ⟨rfl, rfl⟩ := H
   go_enter Try.func37, Try.ntmps37
   go_wp2_with (first | ((with_reducible refine jK (N := 2) rfl ?_); refine zE 2 #[.bool a0_0, .bool a0_1, .bool a0_2, .bool a0_3, .bool a0_4, .int .i64 a0_5] 23 ?_; intro gb652 hg w13 hbox hb; have BK652 := jA (hbox); have GW652 := zg0 hg HB; have GE652 := zg0 hg HB; replace HB := zS0 HB hb; clear hb hbox hg; have hcz14 := zc6 BK652) | ((with_reducible refine jH (f := 27) rfl ?_); refine zL (some 7) Try.func27 #[.agg #[.bool a0_0, .bool a0_1, .bool a0_2, .bool a0_3, .bool a0_4, .int .i64 a0_5]] ?_; (with_reducible refine (impl_IsSound.calls a0_0 a0_1 a0_2 a0_3 a0_4 a0_5 true _ A3.out).mono ?_); rintro e w15 ⟨rfl, hb⟩; refine ⟨_, rfl, ?_⟩; replace BK652 := zB BK652 hb; replace HB := zS1 HB GE652 hb; clear hb) | (go_at_call 56; (with_reducible refine (impl_isHand.calls k _ _ l1 false _ ?side1 ?side2 A5.out).mono ?_); (case side1 => exact zs HR1 HB); (case side2 => exact HC1.out); rintro e w' ⟨rfl, ⟨nd, rfl⟩⟩))
   go_ret2
   exact ⟨ze, zb1 HB GE652⟩
 ·replace c4 := Bool.eq_false_iff.mpr c4
  subst c4
  rw [if_neg zfalse] at H
  simp only [jI, jM] at H
  obtain ⟨rfl, rfl⟩ := H
  go_enter Try.func37, Try.ntmps37
  go_wp2_with (first | ((with_reducible refine jK (N := 2) rfl ?_); refine zE 2 #[.bool a0_0, .bool a0_1, .bool a0_2, .bool a0_3, .bool a0_4, .int .i64 a0_5] 23 ?_; intro gb652 hg w16 hbox hb; have BK652 := jA (hbox); have GW652 := zg0 hg HB; have GE652 := zg0 hg HB; replace HB := zS0 HB hb; clear hb hbox hg; have hcz17 := zc6 BK652) | ((with_reducible refine jH (f := 27) rfl ?_); refine zL (some 7) Try.func27 #[.agg #[.bool a0_0, .bool a0_1, .bool a0_2, .bool a0_3, .bool a0_4, .int .i64 a0_5]] ?_; (with_reducible refine (impl_IsSound.calls a0_0 a0_1 a0_2 a0_3 a0_4 a0_5 false _ A3.out).mono ?_); rintro e w18 ⟨rfl, hb⟩; refine ⟨_, rfl, ?_⟩; replace BK652 := zB BK652 hb; replace HB := zS1 HB GE652 hb; clear hb))
  go_ret2
  exact ⟨ze, zb1 HB GE652⟩

/-! ### spec_l25Fires: function 76 -/
def spec_l25Fires.l0 : Nat → List Int → Int → Option (Bool)
 | 0, _, _ => none
 | k + 1, x5, x6 => if x6 < (x5.length : Int) then (if 0 ≤ x6 then ((spec_l25With.f (rd x5 x6)).bind fun bt660 => (if bt660.2.2.1 = true then (if bt660.2.2.2.1 = true then (spec_l25Fires.l0 k x5 (wrap64 (x6 + 1))) else (some true)) else (spec_l25Fires.l0 k x5 (wrap64 (x6 + 1))))) else (none)) else (some false)
def spec_l25Fires.f (k : Nat) (a0 : Int) (l1 : List Int) : Option (Bool) := (spec_l25Reached.f k a0 l1).bind fun t656 => (spec_l25Fires.l0 k t656 0)
theorem spec_l25Fires.mono_l : ∀ k, (∀ y0 y1, LeO (spec_l25Fires.l0 k y0 y1) (spec_l25Fires.l0 (k + 1) y0 y1))
 | 0 => fun _ _ r h => by simp [spec_l25Fires.l0] at h
 | k + 1 => by
  have ih0 := spec_l25Fires.mono_l k
  ·intro y0 y1
   unfold spec_l25Fires.l0
   repeat' first
   | (with_reducible exact ih0 _ _)
   | (with_reducible exact spec_l25Reached.mono _ _ _)
   | (with_reducible exact LeO.refl _)
   | (with_reducible exact LeO.none _)
   | (with_reducible refine LeO.ite ?_ ?_)
   | (with_reducible refine LeO.bind ?_ (fun _ => ?_))
   | exact ih0 _ _
   | exact spec_l25Reached.mono _ _ _
   | exact LeO.none _
   | refine LeO.ite ?_ ?_
   | refine LeO.bind ?_ (fun _ => ?_)
theorem spec_l25Fires.mono : ∀ a0 a1 k, LeO (spec_l25Fires.f k a0 a1) (spec_l25Fires.f (k + 1) a0 a1) := by
 intro a0 a1 k
 have ih0 := spec_l25Fires.mono_l k
 unfold spec_l25Fires.f
 repeat' first
   | (with_reducible exact ih0 _ _)
   | (with_reducible exact spec_l25Reached.mono _ _ _)
   | (with_reducible exact LeO.refl _)
   | (with_reducible exact LeO.none _)
   | (with_reducible refine LeO.ite ?_ ?_)
   | (with_reducible refine LeO.bind ?_ (fun _ => ?_))
   | exact ih0 _ _
   | exact spec_l25Reached.mono _ _ _
   | exact LeO.none _
   | refine LeO.ite ?_ ?_
   | refine LeO.bind ?_ (fun _ => ?_)
set_option maxHeartbeats 8000000 in
set_option maxRecDepth 100000 in
theorem spec_l25Fires.calls (k : Nat) (a0 : Int) (A1 : Option Addr) (c1 : Nat) (l1 : List Int) (r : Bool) (w : World) (hr1 : Kd.C (Kd.int .i64) w A1 l1.length l1) (hc1 : l1.length ≤ c1) (h : spec_l25Fires.f k a0 l1 = some r) :
  Calls Try.prog 76 #[.int .i64 a0, .slice A1 l1.length c1] w fun e w' => e = .returned (.bool r) ∧ Below w.heap.size w w' := by
 have hu23 := Try.underlying23
 have HR1 := jA hr1
 have HC1 := jA hc1
 clear hr1 hc1
 have HB := jA (Below.refl w.heap.size w)
 have H := h
 unfold spec_l25Fires.f at H
 clear h
 replace H := jD.mp H
 obtain ⟨t656, A30, H⟩ := H
 replace H : (spec_l25Fires.l0 k t656 0) = some r := H
 have A3 := jA A30
 clear A30
 have H' := jA H
 clear H
 go_enter Try.func76, Try.ntmps76
 go_wp2_with (first | ((with_reducible refine jH (f := 74) rfl ?_); refine zL (some 10) Try.func74 #[.int .i64 a0, .slice A1 l1.length c1] ?_; (with_reducible refine (spec_l25Reached.calls k a0 _ _ l1 t656 _ ?side1 ?side2 A3.out).mono ?_); (case side1 => repeat (first | exact HR1.out | (with_reducible refine Kd.C_alloc ?_ _) | (with_reducible refine Kd.C_drewN ?_ _) | (with_reducible refine Kd.C_drew ?_))); (case side2 => exact HC1.out); rintro e w4 ⟨v657, rfl, ho0, hb⟩; refine ⟨_, rfl, ?_⟩; have HO658 := jA (jZ ho0 (jP (zb0 HB))); replace HB := zS0 HB hb; (try clear hb); (try clear hb2); (try clear hk); (try clear hi); (try clear ho0)))
 go_loopg [6] k (fun kq v6 w' => ∃ (x6_1 : Int), v6 = .int .i64 x6_1 ∧ Aside0 (spec_l25Fires.l0 kq t656 x6_1 = some r) ∧ Aside0 (kq ≤ k) ∧ Aside0 (Kd.R (Kd.int .i64) 2 w' w.heap.size (fun _ => True) v657 t656) ∧ Aside0 (Below w.heap.size w w'))
 case atStart => exact ⟨(0), zz, H', ⟨Nat.le_refl _⟩, ⟨zo HO658⟩, ⟨zb0 HB⟩⟩
 case round =>
  clear H'
  try clear c1
  try clear p2
  obtain ⟨x6_1, rfl, HA, HK1, HO_5, HB⟩ := hrel
  cases gk with
  | zero => exact absurd HA.out (by simp [spec_l25Fires.l0])
  | succ k1 =>
   have H := HA.out
   clear HA
   simp only [spec_l25Fires.l0] at H
   by_cases c5 : x6_1 < (t656.length : Int)
   ·rw [if_pos c5] at H
    have c5b0 : decide (x6_1 < (t656.length : Int)) = true := jJ c5
    clear c5
    by_cases c6 : 0 ≤ x6_1
    ·rw [if_pos c6] at H
     have c6b0 : decide (0 ≤ x6_1) = true := jJ c6
     clear c6
     replace H := jD.mp H
     obtain ⟨⟨t660, t661, t662, t663, t664, t665⟩, A70, H⟩ := H
     replace H : (if t662 = true then (if t663 = true then (spec_l25Fires.l0 k1 t656 (wrap64 (x6_1 + 1))) else (some true)) else (spec_l25Fires.l0 k1 t656 (wrap64 (x6_1 + 1)))) = some r := H
     have A7 := jA A70
     clear A70
     by_cases c8 : t662 = true
     ·subst c8
      rw [if_pos rfl] at H
      by_cases c9 : t663 = true
      ·subst c9
       rw [if_pos rfl] at H
       have H' := jA H
       clear H
       obtain ⟨Ao10, co10, eo10⟩ := Kd.R_slice HO_5.out
       subst eo10
       have p659 : 0 ≤ (x6_1 : Int) := jB za
       have q659 : x6_1 < (t656.length : Int) := jB za
       obtain ⟨ad659, e659, hx659_0⟩ := jR (jO HO_5.out).2.2 x6_1 p659 q659
       cases e659
       replace p659 := eq_true p659
       replace q659 := eq_true q659
       go_wp2_with (first | ((with_reducible refine jH (f := 48) rfl ?_); refine zL (some 21) Try.func48 #[.int .i64 (rd t656 x6_1)] ?_; (with_reducible refine (spec_l25With.calls (rd t656 x6_1) t660 t661 true true t664 t665 _ A7.out).mono ?_); rintro e w11 ⟨rfl, hb⟩; refine ⟨_, rfl, ?_⟩; replace HO_5 := jA (jQ (zo HO_5) hb); replace HB := zS0 HB hb; clear hb) | ((with_reducible refine jK (N := 7) rfl ?_); refine zE 7 #[.bool false, .bool false, .bool false, .bool false, .bool false, .int .i64 0] 23 ?_; intro gb666 hg w12 hbox hb; replace HO_5 := jA (jQ (zo HO_5) hb); have BK666 := jA (hbox); have GW666 := zg0 hg HB; have GE666 := zg0 hg HB; replace HB := zS0 HB hb; clear hb hbox hg; have hcz13 := zc6 BK666))
       go_roundg k1
       case measure => have := HK1.out; omega
       case rel => exact ⟨(wrap64 (x6_1 + 1)), zz, H', ⟨by have := HK1.out; omega⟩, ⟨zT HO_5 BK666⟩, ⟨zb1 HB GE666⟩⟩
      ·replace c9 := Bool.eq_false_iff.mpr c9
       subst c9
       rw [if_neg zfalse] at H
       obtain rfl := jN H
       obtain ⟨Ao14, co14, eo14⟩ := Kd.R_slice HO_5.out
       subst eo14
       have p659 : 0 ≤ (x6_1 : Int) := jB za
       have q659 : x6_1 < (t656.length : Int) := jB za
       obtain ⟨ad659, e659, hx659_0⟩ := jR (jO HO_5.out).2.2 x6_1 p659 q659
       cases e659
       replace p659 := eq_true p659
       replace q659 := eq_true q659
       go_wp2_with (first | ((with_reducible refine jH (f := 48) rfl ?_); refine zL (some 21) Try.func48 #[.int .i64 (rd t656 x6_1)] ?_; (with_reducible refine (spec_l25With.calls (rd t656 x6_1) t660 t661 true false t664 t665 _ A7.out).mono ?_); rintro e w15 ⟨rfl, hb⟩; refine ⟨_, rfl, ?_⟩; replace HO_5 := jA (jQ (zo HO_5) hb); replace HB := zS0 HB hb; clear hb) | ((with_reducible refine jK (N := 7) rfl ?_); refine zE 7 #[.bool false, .bool false, .bool false, .bool false, .bool false, .int .i64 0] 23 ?_; intro gb666 hg w16 hbox hb; replace HO_5 := jA (jQ (zo HO_5) hb); have BK666 := jA (hbox); have GW666 := zg0 hg HB; have GE666 := zg0 hg HB; replace HB := zS0 HB hb; clear hb hbox hg; have hcz17 := zc6 BK666))
       go_ret
       exact ⟨ze, zb1 HB GE666⟩
     ·replace c8 := Bool.eq_false_iff.mpr c8
      subst c8
      rw [if_neg zfalse] at H
      have H' := jA H
      clear H
      obtain ⟨Ao18, co18, eo18⟩ := Kd.R_slice HO_5.out
      subst eo18
      have p659 : 0 ≤ (x6_1 : Int) := jB za
      have q659 : x6_1 < (t656.length : Int) := jB za
      obtain ⟨ad659, e659, hx659_0⟩ := jR (jO HO_5.out).2.2 x6_1 p659 q659
      cases e659
      replace p659 := eq_true p659
      replace q659 := eq_true q659
      go_wp2_with (first | ((with_reducible refine jH (f := 48) rfl ?_); refine zL (some 21) Try.func48 #[.int .i64 (rd t656 x6_1)] ?_; (with_reducible refine (spec_l25With.calls (rd t656 x6_1) t660 t661 false t663 t664 t665 _ A7.out).mono ?_); rintro e w19 ⟨rfl, hb⟩; refine ⟨_, rfl, ?_⟩; replace HO_5 := jA (jQ (zo HO_5) hb); replace HB := zS0 HB hb; clear hb) | ((with_reducible refine jK (N := 7) rfl ?_); refine zE 7 #[.bool false, .bool false, .bool false, .bool false, .bool false, .int .i64 0] 23 ?_; intro gb666 hg w20 hbox hb; replace HO_5 := jA (jQ (zo HO_5) hb); have BK666 := jA (hbox); have GW666 := zg0 hg HB; have GE666 := zg0 hg HB; replace HB := zS0 HB hb; clear hb hbox hg; have hcz21 := zc6 BK666))
      go_roundg k1
      case measure => have := HK1.out; omega
      case rel => exact ⟨(wrap64 (x6_1 + 1)), zz, H', ⟨by have := HK1.out; omega⟩, ⟨zT HO_5 BK666⟩, ⟨zb1 HB GE666⟩⟩
    ·rw [if_neg c6] at H
     exact absurd H (by simp)
   ·rw [if_neg c5] at H
    have c5b0 : decide (x6_1 < (t656.length : Int)) = false := jW c5
    clear c5
    obtain rfl := jN H
    obtain ⟨Ao22, co22, eo22⟩ := Kd.R_slice HO_5.out
    subst eo22
    go_wp2
    go_ret
    exact ⟨ze, zb0 HB⟩

/-! ### spec_CanFire: function 38 -/
def spec_CanFire.f (k : Nat) (a0_0 : Bool) (a0_1 : Bool) (a0_2 : Bool) (a0_3 : Bool) (a0_4 : Bool) (a0_5 : Int) (l1 : List Int) : Option (Bool × Int) := (spec_l25Code.f k a0_0 a0_1 a0_2 a0_3 a0_4 a0_5 l1).bind fun t668 => (if t668 = 0 then ((spec_l25Number.f k a0_0 a0_1 a0_2 a0_3 a0_4 a0_5).bind fun t669 => ((spec_l25Fires.f k t669 l1).bind fun t670 => (some (t670, 0)))) else (some (false, t668)))
theorem spec_CanFire.mono : ∀ a0 a1 a2 a3 a4 a5 a6 k, LeO (spec_CanFire.f k a0 a1 a2 a3 a4 a5 a6) (spec_CanFire.f (k + 1) a0 a1 a2 a3 a4 a5 a6) := by
 intro a0 a1 a2 a3 a4 a5 a6 k
 unfold spec_CanFire.f
 repeat' first
   | (with_reducible exact spec_l25Code.mono _ _ _ _ _ _ _ _)
   | (with_reducible exact spec_l25Fires.mono _ _ _)
   | (with_reducible exact spec_l25Number.mono _ _ _ _ _ _ _)
   | (with_reducible exact LeO.refl _)
   | (with_reducible exact LeO.none _)
   | (with_reducible refine LeO.ite ?_ ?_)
   | (with_reducible refine LeO.bind ?_ (fun _ => ?_))
   | exact spec_l25Code.mono _ _ _ _ _ _ _ _
   | exact spec_l25Fires.mono _ _ _
   | exact spec_l25Number.mono _ _ _ _ _ _ _
   | exact LeO.none _
   | refine LeO.ite ?_ ?_
   | refine LeO.bind ?_ (fun _ => ?_)
set_option maxHeartbeats 8000000 in
set_option maxRecDepth 100000 in
theorem spec_CanFire.calls (k : Nat) (a0_0 : Bool) (a0_1 : Bool) (a0_2 : Bool) (a0_3 : Bool) (a0_4 : Bool) (a0_5 : Int) (A1 : Option Addr) (c1 : Nat) (l1 : List Int) (r1 : Bool) (r2 : Int) (w : World) (hr1 : Kd.C (Kd.int .i64) w A1 l1.length l1) (hc1 : l1.length ≤ c1) (h : spec_CanFire.f k a0_0 a0_1 a0_2 a0_3 a0_4 a0_5 l1 = some (r1, r2)) :
  Calls Try.prog 38 #[.agg #[.bool a0_0, .bool a0_1, .bool a0_2, .bool a0_3, .bool a0_4, .int .i64 a0_5], .slice A1 l1.length c1] w fun e w' => e = .returned (.tuple #[.bool r1, .int .i64 r2]) ∧ Below w.heap.size w w' := by
 have hu23 := Try.underlying23
 have HR1 := jA hr1
 have HC1 := jA hc1
 clear hr1 hc1
 have HB := jA (Below.refl w.heap.size w)
 have H := h
 unfold spec_CanFire.f at H
 clear h
 replace H := jD.mp H
 obtain ⟨t668, A30, H⟩ := H
 try dsimp only at H
 have A3 := jA A30
 clear A30
 by_cases c4 : t668 = 0
 ·rw [if_pos c4] at H
  have c4b0 : (t668 == 0) = true := beq_iff_eq.mpr c4
  have c4b1 : (t668 != 0) = false := bne_eq_false_iff_eq.mpr c4
  clear c4
  replace H := jD.mp H
  obtain ⟨t669, A50, H⟩ := H
  try dsimp only at H
  have A5 := jA A50
  clear A50
  replace H := jD.mp H
  obtain ⟨t670, A60, H⟩ := H
  replace H : (some (t670, 0)) = some (r1, r2) := H
  have A6 := jA A60
  clear A60
  simp only [jI, jM] at H
  obtain ⟨rfl, rfl⟩ := H
  go_enter Try.func38, Try.ntmps38
  go_wp2_with (first | ((with_reducible refine jK (N := 2) rfl ?_); refine zE 2 #[.bool a0_0, .bool a0_1, .bool a0_2, .bool a0_3, .bool a0_4, .int .i64 a0_5] 23 ?_; intro gb667 hg w7 hbox hb; have BK667 := jA (hbox); have GW667 := zg0 hg HB; have GE667 := zg0 hg HB; replace HB := zS0 HB hb; clear hb hbox hg; have hcz8 := zc6 BK667) | ((with_reducible refine jH (f := 70) rfl ?_); refine zL (some 9) Try.func70 #[.agg #[.bool a0_0, .bool a0_1, .bool a0_2, .bool a0_3, .bool a0_4, .int .i64 a0_5], .slice A1 l1.length c1] ?_; (with_reducible refine (spec_l25Code.calls k a0_0 a0_1 a0_2 a0_3 a0_4 a0_5 _ _ l1 t668 _ ?side1 ?side2 A3.out).mono ?_); (case side1 => exact zs HR1 HB); (case side2 => exact HC1.out); rintro e w9 ⟨rfl, hb⟩; refine ⟨_, rfl, ?_⟩; replace BK667 := zB BK667 hb; replace HB := zS1 HB GE667 hb; clear hb; have hcz10 := zc6 BK667) | ((with_reducible refine jH (f := 52) rfl ?_); refine zL (some 14) Try.func52 #[.agg #[.bool a0_0, .bool a0_1, .bool a0_2, .bool a0_3, .bool a0_4, .int .i64 a0_5]] ?_; (with_reducible refine (spec_l25Number.calls k a0_0 a0_1 a0_2 a0_3 a0_4 a0_5 t669 _ A5.out).mono ?_); rintro e w11 ⟨rfl, hb⟩; refine ⟨_, rfl, ?_⟩; replace BK667 := zB BK667 hb; replace HB := zS1 HB GE667 hb; clear hb) | ((with_reducible refine jH (f := 76) rfl ?_); refine zL (some 16) Try.func76 #[.int .i64 t669, .slice A1 l1.length c1] ?_; (with_reducible refine (spec_l25Fires.calls k t669 _ _ l1 t670 _ ?side1 ?side2 A6.out).mono ?_); (case side1 => exact zs HR1 HB); (case side2 => exact HC1.out); rintro e w12 ⟨rfl, hb⟩; refine ⟨_, rfl, ?_⟩; replace BK667 := zB BK667 hb; replace HB := zS1 HB GE667 hb; clear hb))
  go_ret2
  exact ⟨ze, zb1 HB GE667⟩
 ·rw [if_neg c4] at H
  have c4b0 : (t668 == 0) = false := beq_eq_false_iff_ne.mpr c4
  have c4b1 : (t668 != 0) = true := bne_iff_ne.mpr c4
  simp only [jI, jM] at H
  obtain ⟨rfl, rfl⟩ := H
  go_enter Try.func38, Try.ntmps38
  go_wp2_with (first | ((with_reducible refine jK (N := 2) rfl ?_); refine zE 2 #[.bool a0_0, .bool a0_1, .bool a0_2, .bool a0_3, .bool a0_4, .int .i64 a0_5] 23 ?_; intro gb667 hg w13 hbox hb; have BK667 := jA (hbox); have GW667 := zg0 hg HB; have GE667 := zg0 hg HB; replace HB := zS0 HB hb; clear hb hbox hg; have hcz14 := zc6 BK667) | ((with_reducible refine jH (f := 70) rfl ?_); refine zL (some 9) Try.func70 #[.agg #[.bool a0_0, .bool a0_1, .bool a0_2, .bool a0_3, .bool a0_4, .int .i64 a0_5], .slice A1 l1.length c1] ?_; (with_reducible refine (spec_l25Code.calls k a0_0 a0_1 a0_2 a0_3 a0_4 a0_5 _ _ l1 t668 _ ?side1 ?side2 A3.out).mono ?_); (case side1 => exact zs HR1 HB); (case side2 => exact HC1.out); rintro e w15 ⟨rfl, hb⟩; refine ⟨_, rfl, ?_⟩; replace BK667 := zB BK667 hb; replace HB := zS1 HB GE667 hb; clear hb))
  go_ret2
  exact ⟨ze, zb1 HB GE667⟩

end Go.Proofs.Ythieppjmjgijfaa.PFnReached
