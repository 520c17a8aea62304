/- Functions and contracts that FnProofs reaches (3 of 22). -/
import Derived.Test.YthieppjmjgijfaaQFnProofsx1
namespace Go.Proofs.Ythieppjmjgijfaa.PFnProofs
open Go.RowKit Go.Proofs.YthieppjmjgijfaaW.PrintWords Go.Proofs.YthieppjmjgijfaaW.PrintLast Go.Proofs.YthieppjmjgijfaaW.PrintMore
attribute [local go_sem] max2_int min2_int max_two min_two max_three min_three max_four min_four   -- for this text's walks alone
set_option linter.unusedVariables false
set_option linter.unusedSimpArgs false

/-! ### impl_numberOf: function 53 -/
def impl_numberOf.f (a0_0 : Bool) (a0_1 : Bool) (a0_2 : Bool) (a0_3 : Bool) (a0_4 : Bool) (a0_5 : Int) : Option (Int) := (impl_bit.f a0_0 1).bind fun t149 => ((impl_bit.f a0_1 2).bind fun t150 => ((impl_bit.f a0_2 4).bind fun t151 => ((impl_bit.f a0_3 8).bind fun t152 => ((impl_bit.f a0_4 16).bind fun t153 => (some (wrap64 ((wrap64 ((wrap64 ((wrap64 ((wrap64 (t149 + t150)) + t151)) + t152)) + t153)) + (wrap64 (32 * a0_5)))))))))
set_option maxHeartbeats 8000000 in
set_option maxRecDepth 100000 in
theorem impl_numberOf.calls (a0_0 : Bool) (a0_1 : Bool) (a0_2 : Bool) (a0_3 : Bool) (a0_4 : Bool) (a0_5 : Int) (r : Int) (w : World) (h : impl_numberOf.f a0_0 a0_1 a0_2 a0_3 a0_4 a0_5 = some r) :
  Calls Try.prog 53 #[.agg #[.bool a0_0, .bool a0_1, .bool a0_2, .bool a0_3, .bool a0_4, .int .i64 a0_5]] w fun e w' => e = .returned (.int .i64 r) ∧ Below w.heap.size w w' := by
 have hu23 := Try.underlying23
 have HB := jA (Below.refl w.heap.size w)
 have H := h
 unfold impl_numberOf.f at H
 clear h
 replace H := jC.mp H
 obtain ⟨t149, A20, H⟩ := H
 try dsimp only at H
 have A2 := jA A20
 clear A20
 replace H := jC.mp H
 obtain ⟨t150, A30, H⟩ := H
 try dsimp only at H
 have A3 := jA A30
 clear A30
 replace H := jC.mp H
 obtain ⟨t151, A40, H⟩ := H
 try dsimp only at H
 have A4 := jA A40
 clear A40
 replace H := jC.mp H
 obtain ⟨t152, A50, H⟩ := H
 try dsimp only at H
 have A5 := jA A50
 clear A50
 replace H := jC.mp H
 obtain ⟨t153, A60, H⟩ := H
 try dsimp only at H
 have A6 := jA A60
 clear A60
 obtain rfl := jN H
 go_enter Try.func53, Try.ntmps53
 go_wp2_with (first | ((with_reducible refine jJ (N := 1) rfl ?_); refine zE 1 #[.bool a0_0, .bool a0_1, .bool a0_2, .bool a0_3, .bool a0_4, .int .i64 a0_5] 23 ?_; intro gb148 hg w7 hbox hb; have BK148 := jA (hbox); have GW148 := zg0 hg HB; have GE148 := zg0 hg HB; replace HB := zS0 HB hb; clear hb hbox hg; have hcz8 := zc6 BK148) | (go_at_call 79; (with_reducible refine (impl_bit.calls a0_0 1 t149 _ A2.out).mono ?_); rintro e w' ⟨rfl, ⟨nd, rfl⟩⟩; (try first | exact ⟨rfl, _, World.drewN_drewN _ _ _⟩ | exact ⟨rfl, _, Eq.trans (World.drewN_drewN _ _ _) (congrArg (World.drewN _) (Nat.add_assoc _ _ _))⟩)) | (go_at_call 79; (with_reducible refine (impl_bit.calls a0_1 2 t150 _ A3.out).mono ?_); rintro e w' ⟨rfl, ⟨nd, rfl⟩⟩; (try first | exact ⟨rfl, _, World.drewN_drewN _ _ _⟩ | exact ⟨rfl, _, Eq.trans (World.drewN_drewN _ _ _) (congrArg (World.drewN _) (Nat.add_assoc _ _ _))⟩)) | (go_at_call 79; (with_reducible refine (impl_bit.calls a0_2 4 t151 _ A4.out).mono ?_); rintro e w' ⟨rfl, ⟨nd, rfl⟩⟩; (try first | exact ⟨rfl, _, World.drewN_drewN _ _ _⟩ | exact ⟨rfl, _, Eq.trans (World.drewN_drewN _ _ _) (congrArg (World.drewN _) (Nat.add_assoc _ _ _))⟩)) | (go_at_call 79; (with_reducible refine (impl_bit.calls a0_3 8 t152 _ A5.out).mono ?_); rintro e w' ⟨rfl, ⟨nd, rfl⟩⟩; (try first | exact ⟨rfl, _, World.drewN_drewN _ _ _⟩ | exact ⟨rfl, _, Eq.trans (World.drewN_drewN _ _ _) (congrArg (World.drewN _) (Nat.add_assoc _ _ _))⟩)) | (go_at_call 79; (with_reducible refine (impl_bit.calls a0_4 16 t153 _ A6.out).mono ?_); rintro e w' ⟨rfl, ⟨nd, rfl⟩⟩; (try first | exact ⟨rfl, _, World.drewN_drewN _ _ _⟩ | exact ⟨rfl, _, Eq.trans (World.drewN_drewN _ _ _) (congrArg (World.drewN _) (Nat.add_assoc _ _ _))⟩)))
 repeat (go_quiet (first | ((with_reducible refine jJ (N := 1) rfl ?_); refine zE 1 #[.bool a0_0, .bool a0_1, .bool a0_2, .bool a0_3, .bool a0_4, .int .i64 a0_5] 23 ?_; intro gb148 hg w7 hbox hb; have BK148 := jA (hbox); have GW148 := zg0 hg HB; have GE148 := zg0 hg HB; replace HB := zS0 HB hb; clear hb hbox hg; have hcz8 := zc6 BK148) | (go_at_call 79; (with_reducible refine (impl_bit.calls a0_0 1 t149 _ A2.out).mono ?_); rintro e w' ⟨rfl, ⟨nd, rfl⟩⟩; (try first | exact ⟨rfl, _, World.drewN_drewN _ _ _⟩ | exact ⟨rfl, _, Eq.trans (World.drewN_drewN _ _ _) (congrArg (World.drewN _) (Nat.add_assoc _ _ _))⟩)) | (go_at_call 79; (with_reducible refine (impl_bit.calls a0_1 2 t150 _ A3.out).mono ?_); rintro e w' ⟨rfl, ⟨nd, rfl⟩⟩; (try first | exact ⟨rfl, _, World.drewN_drewN _ _ _⟩ | exact ⟨rfl, _, Eq.trans (World.drewN_drewN _ _ _) (congrArg (World.drewN _) (Nat.add_assoc _ _ _))⟩)) | (go_at_call 79; (with_reducible refine (impl_bit.calls a0_2 4 t151 _ A4.out).mono ?_); rintro e w' ⟨rfl, ⟨nd, rfl⟩⟩; (try first | exact ⟨rfl, _, World.drewN_drewN _ _ _⟩ | exact ⟨rfl, _, Eq.trans (World.drewN_drewN _ _ _) (congrArg (World.drewN _) (Nat.add_assoc _ _ _))⟩)) | (go_at_call 79; (with_reducible refine (impl_bit.calls a0_3 8 t152 _ A5.out).mono ?_); rintro e w' ⟨rfl, ⟨nd, rfl⟩⟩; (try first | exact ⟨rfl, _, World.drewN_drewN _ _ _⟩ | exact ⟨rfl, _, Eq.trans (World.drewN_drewN _ _ _) (congrArg (World.drewN _) (Nat.add_assoc _ _ _))⟩)) | (go_at_call 79; (with_reducible refine (impl_bit.calls a0_4 16 t153 _ A6.out).mono ?_); rintro e w' ⟨rfl, ⟨nd, rfl⟩⟩; (try first | exact ⟨rfl, _, World.drewN_drewN _ _ _⟩ | exact ⟨rfl, _, Eq.trans (World.drewN_drewN _ _ _) (congrArg (World.drewN _) (Nat.add_assoc _ _ _))⟩))); try go_wp2_with (first | ((with_reducible refine jJ (N := 1) rfl ?_); refine zE 1 #[.bool a0_0, .bool a0_1, .bool a0_2, .bool a0_3, .bool a0_4, .int .i64 a0_5] 23 ?_; intro gb148 hg w7 hbox hb; have BK148 := jA (hbox); have GW148 := zg0 hg HB; have GE148 := zg0 hg HB; replace HB := zS0 HB hb; clear hb hbox hg; have hcz8 := zc6 BK148) | (go_at_call 79; (with_reducible refine (impl_bit.calls a0_0 1 t149 _ A2.out).mono ?_); rintro e w' ⟨rfl, ⟨nd, rfl⟩⟩; (try first | exact ⟨rfl, _, World.drewN_drewN _ _ _⟩ | exact ⟨rfl, _, Eq.trans (World.drewN_drewN _ _ _) (congrArg (World.drewN _) (Nat.add_assoc _ _ _))⟩)) | (go_at_call 79; (with_reducible refine (impl_bit.calls a0_1 2 t150 _ A3.out).mono ?_); rintro e w' ⟨rfl, ⟨nd, rfl⟩⟩; (try first | exact ⟨rfl, _, World.drewN_drewN _ _ _⟩ | exact ⟨rfl, _, Eq.trans (World.drewN_drewN _ _ _) (congrArg (World.drewN _) (Nat.add_assoc _ _ _))⟩)) | (go_at_call 79; (with_reducible refine (impl_bit.calls a0_2 4 t151 _ A4.out).mono ?_); rintro e w' ⟨rfl, ⟨nd, rfl⟩⟩; (try first | exact ⟨rfl, _, World.drewN_drewN _ _ _⟩ | exact ⟨rfl, _, Eq.trans (World.drewN_drewN _ _ _) (congrArg (World.drewN _) (Nat.add_assoc _ _ _))⟩)) | (go_at_call 79; (with_reducible refine (impl_bit.calls a0_3 8 t152 _ A5.out).mono ?_); rintro e w' ⟨rfl, ⟨nd, rfl⟩⟩; (try first | exact ⟨rfl, _, World.drewN_drewN _ _ _⟩ | exact ⟨rfl, _, Eq.trans (World.drewN_drewN _ _ _) (congrArg (World.drewN _) (Nat.add_assoc _ _ _))⟩)) | (go_at_call 79; (with_reducible refine (impl_bit.calls a0_4 16 t153 _ A6.out).mono ?_); rintro e w' ⟨rfl, ⟨nd, rfl⟩⟩; (try first | exact ⟨rfl, _, World.drewN_drewN _ _ _⟩ | exact ⟨rfl, _, Eq.trans (World.drewN_drewN _ _ _) (congrArg (World.drewN _) (Nat.add_assoc _ _ _))⟩))))
 go_ret
 exact ⟨ze, zb1 HB GE148⟩

/-! ### impl_NumberOf: function 18 -/
def impl_NumberOf.f (a0_0 : Bool) (a0_1 : Bool) (a0_2 : Bool) (a0_3 : Bool) (a0_4 : Bool) (a0_5 : Int) : Option (Int × Int) := (impl_IsSound.f a0_0 a0_1 a0_2 a0_3 a0_4 a0_5).bind fun t155 => (if t155 = true then ((impl_numberOf.f a0_0 a0_1 a0_2 a0_3 a0_4 a0_5).bind fun t156 => (some (t156, 0))) else (some (0, 1)))
set_option maxHeartbeats 8000000 in
set_option maxRecDepth 100000 in
theorem impl_NumberOf.calls (a0_0 : Bool) (a0_1 : Bool) (a0_2 : Bool) (a0_3 : Bool) (a0_4 : Bool) (a0_5 : Int) (r1 : Int) (r2 : Int) (w : World) (h : impl_NumberOf.f a0_0 a0_1 a0_2 a0_3 a0_4 a0_5 = some (r1, r2)) :
  Calls Try.prog 18 #[.agg #[.bool a0_0, .bool a0_1, .bool a0_2, .bool a0_3, .bool a0_4, .int .i64 a0_5]] w fun e w' => e = .returned (.tuple #[.int .i64 r1, .int .i64 r2]) ∧ Below w.heap.size w w' := by
 have hu23 := Try.underlying23
 have HB := jA (Below.refl w.heap.size w)
 have H := h
 unfold impl_NumberOf.f at H
 clear h
 replace H := jC.mp H
 obtain ⟨t155, A20, H⟩ := H
 try dsimp only at H
 have A2 := jA A20
 clear A20
 by_cases c3 : t155 = true
 ·subst c3
  rw [if_pos rfl] at H
  replace H := jC.mp H
  obtain ⟨t156, A40, H⟩ := H
  replace H : (some (t156, 0)) = some (r1, r2) := H
  have A4 := jA A40
  clear A40
  simp only [jH, jK] at H
  obtain ⟨rfl, rfl⟩ := H
  go_enter Try.func18, Try.ntmps18
  go_wp2_with (first | ((with_reducible refine jJ (N := 1) rfl ?_); refine zE 1 #[.bool a0_0, .bool a0_1, .bool a0_2, .bool a0_3, .bool a0_4, .int .i64 a0_5] 23 ?_; intro gb154 hg w5 hbox hb; have BK154 := jA (hbox); have GW154 := zg0 hg HB; have GE154 := zg0 hg HB; replace HB := zS0 HB hb; clear hb hbox hg; have hcz6 := zc6 BK154) | ((with_reducible refine jG (f := 27) rfl ?_); refine zL (some 5) Try.func27 #[.agg #[.bool a0_0, .bool a0_1, .bool a0_2, .bool a0_3, .bool a0_4, .int .i64 a0_5]] ?_; (with_reducible refine (impl_IsSound.calls a0_0 a0_1 a0_2 a0_3 a0_4 a0_5 true _ A2.out).mono ?_); rintro e w7 ⟨rfl, hb⟩; refine ⟨_, rfl, ?_⟩; replace BK154 := zB BK154 hb; replace HB := zS1 HB GE154 hb; clear hb; have hcz8 := zc6 BK154) | ((with_reducible refine jG (f := 53) rfl ?_); refine zL (some 8) Try.func53 #[.agg #[.bool a0_0, .bool a0_1, .bool a0_2, .bool a0_3, .bool a0_4, .int .i64 a0_5]] ?_; (with_reducible refine (impl_numberOf.calls a0_0 a0_1 a0_2 a0_3 a0_4 a0_5 t156 _ A4.out).mono ?_); rintro e w9 ⟨rfl, hb⟩; refine ⟨_, rfl, ?_⟩; replace BK154 := zB BK154 hb; replace HB := zS1 HB GE154 hb; clear hb))
  go_ret2
  exact ⟨ze, zb1 HB GE154⟩
 ·replace c3 := Bool.eq_false_iff.mpr c3
  subst c3
  rw [if_neg zfalse] at H
  simp only [jH, jK] at H
  obtain ⟨rfl, rfl⟩ := H
  go_enter Try.func18, Try.ntmps18
  go_wp2_with (first | ((with_reducible refine jJ (N := 1) rfl ?_); refine zE 1 #[.bool a0_0, .bool a0_1, .bool a0_2, .bool a0_3, .bool a0_4, .int .i64 a0_5] 23 ?_; intro gb154 hg w10 hbox hb; have BK154 := jA (hbox); have GW154 := zg0 hg HB; have GE154 := zg0 hg HB; replace HB := zS0 HB hb; clear hb hbox hg; have hcz11 := zc6 BK154) | ((with_reducible refine jG (f := 27) rfl ?_); refine zL (some 5) Try.func27 #[.agg #[.bool a0_0, .bool a0_1, .bool a0_2, .bool a0_3, .bool a0_4, .int .i64 a0_5]] ?_; (with_reducible refine (impl_IsSound.calls a0_0 a0_1 a0_2 a0_3 a0_4 a0_5 false _ A2.out).mono ?_); rintro e w12 ⟨rfl, hb⟩; refine ⟨_, rfl, ?_⟩; replace BK154 := zB BK154 hb; replace HB := zS1 HB GE154 hb; clear hb))
  go_ret2
  exact ⟨ze, zb1 HB GE154⟩

/-! ### laws_big: function 19 -/
def laws_big.f (l0 : List Int) : Option (Bool) := some (decide ((l0.length : Int) > 4096))
set_option maxHeartbeats 8000000 in
set_option maxRecDepth 100000 in
theorem laws_big.calls (A0 : Option Addr) (c0 : Nat) (l0 : List Int) (r : Bool) (w : World) (hr0 : Kd.C (Kd.int .u8) w A0 l0.length l0) (hc0 : l0.length ≤ c0) (h : laws_big.f l0 = some r) :
  Calls Try.prog 19 #[.slice A0 l0.length c0] w fun e w' => e = .returned (.bool r) ∧ Drawn0 w w' := by
 have HR0 := jA hr0
 have HC0 := jA hc0
 clear hr0 hc0
 have H : (some (decide ((l0.length : Int) > 4096))) = some r := h
 clear h
 obtain rfl := jN H
 go_enter Try.func19, Try.ntmps19
 go_wp2
 go_ret
 exact ⟨by first | rfl | (simp; done) | (simp [*]; done), by repeat (first | exact Drawn0.refl _ | apply Drawn0.step)⟩

/-! ### spec_l01Rises: function 86 -/
def spec_l01Rises.l0 : Nat → List Int → Int → Int → Option (Bool)
 | 0, _, _, _ => none
 | k + 1, x0, x1, x5 => if x5 < (x0.length : Int) then (if 0 ≤ x5 then ((spec_l01In.f (rd x0 x5) 0 (wrap64 (x1 - 1))).bind fun t158 => (if t158 = true then (if x5 > 0 then (if 0 ≤ (wrap64 (x5 - 1)) then (if (wrap64 (x5 - 1)) < (x0.length : Int) then (if (rd x0 x5) ≤ (rd x0 (wrap64 (x5 - 1))) then (some false) else (spec_l01Rises.l0 k x0 x1 (wrap64 (x5 + 1)))) else (none)) else (none)) else (spec_l01Rises.l0 k x0 x1 (wrap64 (x5 + 1)))) else (some false))) else (none)) else (some true)
def spec_l01Rises.f (k : Nat) (l0 : List Int) (a1 : Int) : Option (Bool) := spec_l01Rises.l0 k l0 a1 0
theorem spec_l01Rises.mono_l : ∀ k, (∀ y0 y1 y2, LeO (spec_l01Rises.l0 k y0 y1 y2) (spec_l01Rises.l0 (k + 1) y0 y1 y2))
 | 0 => fun _ _ _ r h => by simp [spec_l01Rises.l0] at h
 | k + 1 => by
  have ih0 := spec_l01Rises.mono_l k
  ·intro y0 y1 y2
   unfold spec_l01Rises.l0
   repeat' first
   | (with_reducible exact ih0 _ _ _)
   | (with_reducible exact LeO.refl _)
   | (with_reducible exact LeO.none _)
   | (with_reducible refine LeO.ite ?_ ?_)
   | (with_reducible refine LeO.bind ?_ (fun _ => ?_))
   | exact ih0 _ _ _
   | exact LeO.none _
   | refine LeO.ite ?_ ?_
   | refine LeO.bind ?_ (fun _ => ?_)
theorem spec_l01Rises.mono : ∀ a0 a1 k, LeO (spec_l01Rises.f k a0 a1) (spec_l01Rises.f (k + 1) a0 a1) := by
 intro a0 a1 k
 have ih0 := spec_l01Rises.mono_l k
 unfold spec_l01Rises.f
 repeat' first
   | (with_reducible exact ih0 _ _ _)
   | (with_reducible exact LeO.refl _)
   | (with_reducible exact LeO.none _)
   | (with_reducible refine LeO.ite ?_ ?_)
   | (with_reducible refine LeO.bind ?_ (fun _ => ?_))
   | exact ih0 _ _ _
   | exact LeO.none _
   | refine LeO.ite ?_ ?_
   | refine LeO.bind ?_ (fun _ => ?_)
set_option maxHeartbeats 8000000 in
set_option maxRecDepth 100000 in
theorem spec_l01Rises.calls (k : Nat) (A0 : Option Addr) (c0 : Nat) (l0 : List Int) (a1 : Int) (r : Bool) (w : World) (hr0 : Kd.C (Kd.int .i64) w A0 l0.length l0) (hc0 : l0.length ≤ c0) (h : spec_l01Rises.f k l0 a1 = some r) :
  Calls Try.prog 86 #[.slice A0 l0.length c0, .int .i64 a1] w fun e w' => e = .returned (.bool r) ∧ Drawn0 w w' := by
 have HR0 := jA hr0
 have HC0 := jA hc0
 clear hr0 hc0
 have H : (spec_l01Rises.l0 k l0 a1 0) = some r := h
 clear h
 have H' := jA H
 clear H
 go_enter Try.func86, Try.ntmps86
 go_wp2
 repeat (go_quiet (fail); try go_wp2)
 go_loopg [5] k (fun kq v5 w' => ∃ (x5_1 : Int), v5 = .int .i64 x5_1 ∧ Aside0 (spec_l01Rises.l0 kq l0 a1 x5_1 = some r) ∧ Aside0 (kq ≤ k) ∧ Drawn0 w w')
 case atStart => exact ⟨(0), zz, H', ⟨Nat.le_refl _⟩, by repeat (first | exact Drawn0.refl _ | apply Drawn0.step)⟩
 case round =>
  clear H'
  try clear p2
  obtain ⟨x5_1, rfl, HA, HK1, ⟨m1, rfl⟩⟩ := hrel
  cases gk with
  | zero => exact absurd HA.out (by simp [spec_l01Rises.l0])
  | succ k1 =>
   have H := HA.out
   clear HA
   simp only [spec_l01Rises.l0] at H
   by_cases c3 : x5_1 < (l0.length : Int)
   ·rw [if_pos c3] at H
    have c3b0 : decide (x5_1 < (l0.length : Int)) = true := jI c3
    clear c3
    by_cases c4 : 0 ≤ x5_1
    ·rw [if_pos c4] at H
     have c4b0 : decide (0 ≤ x5_1) = true := jI c4
     clear c4
     replace H := jC.mp H
     obtain ⟨t158, A50, H⟩ := H
     replace H : (if t158 = true then (if x5_1 > 0 then (if 0 ≤ (wrap64 (x5_1 - 1)) then (if (wrap64 (x5_1 - 1)) < (l0.length : Int) then (if (rd l0 x5_1) ≤ (rd l0 (wrap64 (x5_1 - 1))) then (some false) else (spec_l01Rises.l0 k1 l0 a1 (wrap64 (x5_1 + 1)))) else (none)) else (none)) else (spec_l01Rises.l0 k1 l0 a1 (wrap64 (x5_1 + 1)))) else (some false)) = some r := H
     have A5 := jA A50
     clear A50
     by_cases c6 : t158 = true
     ·subst c6
      rw [if_pos rfl] at H
      by_cases c7 : x5_1 > 0
      ·rw [if_pos c7] at H
       have c7b0 : decide (0 < x5_1) = true := jI c7
       clear c7
       obtain ⟨ji8, hji8⟩ : ∃ j_ : Int, (wrap64 (x5_1 - 1)) = j_ := ⟨_, rfl⟩
       replace H : (if 0 ≤ (ji8) then (if (ji8) < (l0.length : Int) then (if (rd l0 x5_1) ≤ (rd l0 (ji8)) then (some false) else (spec_l01Rises.l0 k1 l0 a1 (wrap64 (x5_1 + 1)))) else (none)) else (none)) = some r := by first | (rw [hji8] at H; exact H) | (simp only [hji8] at H ⊢; exact H)
       (try rw [hji8] at A5)
       have hji8w : (IntKind.i64.wrap (x5_1 - 1)) = ji8 := (i64_w _).trans hji8
       by_cases c9 : 0 ≤ (ji8)
       ·rw [if_pos c9] at H
        have c9b0 : decide (0 ≤ (ji8)) = true := jI c9
        clear c9
        by_cases c10 : (ji8) < (l0.length : Int)
        ·rw [if_pos c10] at H
         have c10b0 : decide ((ji8) < (l0.length : Int)) = true := jI c10
         clear c10
         by_cases c11 : (rd l0 x5_1) ≤ (rd l0 (ji8))
         ·rw [if_pos c11] at H
          have c11b0 : decide ((rd l0 x5_1) ≤ (rd l0 (ji8))) = true := jI c11
          clear c11
          obtain rfl := jN H
          have p157 : 0 ≤ (x5_1 : Int) := jB za
          have q157 : x5_1 < (l0.length : Int) := jB za
          obtain ⟨ad157, e157, hx157_0⟩ := jR HR0.out x5_1 p157 q157
          cases e157
          replace p157 := eq_true p157
          replace q157 := eq_true q157
          have p1579 : 0 ≤ (ji8 : Int) := jB za
          have q1579 : ji8 < (l0.length : Int) := jB za
          obtain ⟨ad1579, e1579, hx1579_0⟩ := jR HR0.out ji8 p1579 q1579
          obtain rfl : ad157 = ad1579 := (by injection e1579)
          replace p1579 := eq_true p1579
          replace q1579 := eq_true q1579
          go_wp2_with (first | (go_at_call 78; (with_reducible refine (spec_l01In.calls (rd l0 x5_1) 0 (wrap64 (a1 - 1)) true _ A5.out).mono ?_); rintro e w' ⟨rfl, ⟨nd, rfl⟩⟩; (first | exact ⟨rfl, _, World.drewN_drewN _ _ _⟩ | exact ⟨rfl, _, Eq.trans (World.drewN_drewN _ _ _) (congrArg (World.drewN _) (Nat.add_assoc _ _ _))⟩ | (have p159 : 0 ≤ (x5_1 : Int) := jB za; have q159 : x5_1 < (l0.length : Int) := jB za; obtain ⟨ad159, e159, hx159_0⟩ := jR HR0.out x5_1 p159 q159; obtain rfl : ad157 = ad159 := (by injection e159); replace p159 := eq_true p159; replace q159 := eq_true q159; have p160 : 0 ≤ ((ji8) : Int) := jB za; have q160 : (ji8) < (l0.length : Int) := jB za; obtain ⟨ad160, e160, hx160_0⟩ := jR HR0.out (ji8) p160 q160; obtain rfl : ad157 = ad160 := (by injection e160); replace p160 := eq_true p160; replace q160 := eq_true q160))))
          repeat (go_quiet (first | (go_at_call 78; (with_reducible refine (spec_l01In.calls (rd l0 x5_1) 0 (wrap64 (a1 - 1)) true _ A5.out).mono ?_); rintro e w' ⟨rfl, ⟨nd, rfl⟩⟩; (first | exact ⟨rfl, _, World.drewN_drewN _ _ _⟩ | exact ⟨rfl, _, Eq.trans (World.drewN_drewN _ _ _) (congrArg (World.drewN _) (Nat.add_assoc _ _ _))⟩ | (have p159 : 0 ≤ (x5_1 : Int) := jB za; have q159 : x5_1 < (l0.length : Int) := jB za; obtain ⟨ad159, e159, hx159_0⟩ := jR HR0.out x5_1 p159 q159; obtain rfl : ad157 = ad159 := (by injection e159); replace p159 := eq_true p159; replace q159 := eq_true q159; have p160 : 0 ≤ ((ji8) : Int) := jB za; have q160 : (ji8) < (l0.length : Int) := jB za; obtain ⟨ad160, e160, hx160_0⟩ := jR HR0.out (ji8) p160 q160; obtain rfl : ad157 = ad160 := (by injection e160); replace p160 := eq_true p160; replace q160 := eq_true q160)))); try go_wp2_with (first | (go_at_call 78; (with_reducible refine (spec_l01In.calls (rd l0 x5_1) 0 (wrap64 (a1 - 1)) true _ A5.out).mono ?_); rintro e w' ⟨rfl, ⟨nd, rfl⟩⟩; (first | exact ⟨rfl, _, World.drewN_drewN _ _ _⟩ | exact ⟨rfl, _, Eq.trans (World.drewN_drewN _ _ _) (congrArg (World.drewN _) (Nat.add_assoc _ _ _))⟩ | (have p159 : 0 ≤ (x5_1 : Int) := jB za; have q159 : x5_1 < (l0.length : Int) := jB za; obtain ⟨ad159, e159, hx159_0⟩ := jR HR0.out x5_1 p159 q159; obtain rfl : ad157 = ad159 := (by injection e159); replace p159 := eq_true p159; replace q159 := eq_true q159; have p160 : 0 ≤ ((ji8) : Int) := jB za; have q160 : (ji8) < (l0.length : Int) := jB za; obtain ⟨ad160, e160, hx160_0⟩ := jR HR0.out (ji8) p160 q160; obtain rfl : ad157 = ad160 := (by injection e160); replace p160 := eq_true p160; replace q160 := eq_true q160)))))
          go_ret
          exact ⟨by first | rfl | (simp; done) | (simp only [← hji8] <;> (first | rfl | simp)) | (simp [*]; done), by repeat (first | exact Drawn0.refl _ | apply Drawn0.step)⟩
         ·rw [if_neg c11] at H
          have c11b0 : decide ((rd l0 x5_1) ≤ (rd l0 (ji8))) = false := jS c11
          clear c11
          have H' := jA H
          clear H
          have p157 : 0 ≤ (x5_1 : Int) := jB za
          have q157 : x5_1 < (l0.length : Int) := jB za
          obtain ⟨ad157, e157, hx157_0⟩ := jR HR0.out x5_1 p157 q157
          cases e157
          replace p157 := eq_true p157
          replace q157 := eq_true q157
          have p1579 : 0 ≤ (ji8 : Int) := jB za
          have q1579 : ji8 < (l0.length : Int) := jB za
          obtain ⟨ad1579, e1579, hx1579_0⟩ := jR HR0.out ji8 p1579 q1579
          obtain rfl : ad157 = ad1579 := (by injection e1579)
          replace p1579 := eq_true p1579
          replace q1579 := eq_true q1579
          go_wp2_with (first | (go_at_call 78; (with_reducible refine (spec_l01In.calls (rd l0 x5_1) 0 (wrap64 (a1 - 1)) true _ A5.out).mono ?_); rintro e w' ⟨rfl, ⟨nd, rfl⟩⟩; (first | exact ⟨rfl, _, World.drewN_drewN _ _ _⟩ | exact ⟨rfl, _, Eq.trans (World.drewN_drewN _ _ _) (congrArg (World.drewN _) (Nat.add_assoc _ _ _))⟩ | (have p159 : 0 ≤ (x5_1 : Int) := jB za; have q159 : x5_1 < (l0.length : Int) := jB za; obtain ⟨ad159, e159, hx159_0⟩ := jR HR0.out x5_1 p159 q159; obtain rfl : ad157 = ad159 := (by injection e159); replace p159 := eq_true p159; replace q159 := eq_true q159; have p160 : 0 ≤ ((ji8) : Int) := jB za; have q160 : (ji8) < (l0.length : Int) := jB za; obtain ⟨ad160, e160, hx160_0⟩ := jR HR0.out (ji8) p160 q160; obtain rfl : ad157 = ad160 := (by injection e160); replace p160 := eq_true p160; replace q160 := eq_true q160))))
          repeat (go_quiet (first | (go_at_call 78; (with_reducible refine (spec_l01In.calls (rd l0 x5_1) 0 (wrap64 (a1 - 1)) true _ A5.out).mono ?_); rintro e w' ⟨rfl, ⟨nd, rfl⟩⟩; (first | exact ⟨rfl, _, World.drewN_drewN _ _ _⟩ | exact ⟨rfl, _, Eq.trans (World.drewN_drewN _ _ _) (congrArg (World.drewN _) (Nat.add_assoc _ _ _))⟩ | (have p159 : 0 ≤ (x5_1 : Int) := jB za; have q159 : x5_1 < (l0.length : Int) := jB za; obtain ⟨ad159, e159, hx159_0⟩ := jR HR0.out x5_1 p159 q159; obtain rfl : ad157 = ad159 := (by injection e159); replace p159 := eq_true p159; replace q159 := eq_true q159; have p160 : 0 ≤ ((ji8) : Int) := jB za; have q160 : (ji8) < (l0.length : Int) := jB za; obtain ⟨ad160, e160, hx160_0⟩ := jR HR0.out (ji8) p160 q160; obtain rfl : ad157 = ad160 := (by injection e160); replace p160 := eq_true p160; replace q160 := eq_true q160)))); try go_wp2_with (first | (go_at_call 78; (with_reducible refine (spec_l01In.calls (rd l0 x5_1) 0 (wrap64 (a1 - 1)) true _ A5.out).mono ?_); rintro e w' ⟨rfl, ⟨nd, rfl⟩⟩; (first | exact ⟨rfl, _, World.drewN_drewN _ _ _⟩ | exact ⟨rfl, _, Eq.trans (World.drewN_drewN _ _ _) (congrArg (World.drewN _) (Nat.add_assoc _ _ _))⟩ | (have p159 : 0 ≤ (x5_1 : Int) := jB za; have q159 : x5_1 < (l0.length : Int) := jB za; obtain ⟨ad159, e159, hx159_0⟩ := jR HR0.out x5_1 p159 q159; obtain rfl : ad157 = ad159 := (by injection e159); replace p159 := eq_true p159; replace q159 := eq_true q159; have p160 : 0 ≤ ((ji8) : Int) := jB za; have q160 : (ji8) < (l0.length : Int) := jB za; obtain ⟨ad160, e160, hx160_0⟩ := jR HR0.out (ji8) p160 q160; obtain rfl : ad157 = ad160 := (by injection e160); replace p160 := eq_true p160; replace q160 := eq_true q160)))))
          go_roundg k1
          case measure => have := HK1.out; omega
          case rel => exact ⟨(wrap64 (x5_1 + 1)), zz, H', ⟨by have := HK1.out; omega⟩, by repeat (first | exact Drawn0.refl _ | apply Drawn0.step)⟩
        ·rw [if_neg c10] at H
         exact absurd H (by simp)
       ·rw [if_neg c9] at H
        exact absurd H (by simp)
      ·rw [if_neg c7] at H
       have c7b0 : decide (0 < x5_1) = false := jS c7
       clear c7
       have H' := jA H
       clear H
       have p157 : 0 ≤ (x5_1 : Int) := jB za
       have q157 : x5_1 < (l0.length : Int) := jB za
       obtain ⟨ad157, e157, hx157_0⟩ := jR HR0.out x5_1 p157 q157
       cases e157
       replace p157 := eq_true p157
       replace q157 := eq_true q157
       go_wp2_with (first | (go_at_call 78; (with_reducible refine (spec_l01In.calls (rd l0 x5_1) 0 (wrap64 (a1 - 1)) true _ A5.out).mono ?_); rintro e w' ⟨rfl, ⟨nd, rfl⟩⟩; (try first | exact ⟨rfl, _, World.drewN_drewN _ _ _⟩ | exact ⟨rfl, _, Eq.trans (World.drewN_drewN _ _ _) (congrArg (World.drewN _) (Nat.add_assoc _ _ _))⟩)))
       repeat (go_quiet (first | (go_at_call 78; (with_reducible refine (spec_l01In.calls (rd l0 x5_1) 0 (wrap64 (a1 - 1)) true _ A5.out).mono ?_); rintro e w' ⟨rfl, ⟨nd, rfl⟩⟩; (try first | exact ⟨rfl, _, World.drewN_drewN _ _ _⟩ | exact ⟨rfl, _, Eq.trans (World.drewN_drewN _ _ _) (congrArg (World.drewN _) (Nat.add_assoc _ _ _))⟩))); try go_wp2_with (first | (go_at_call 78; (with_reducible refine (spec_l01In.calls (rd l0 x5_1) 0 (wrap64 (a1 - 1)) true _ A5.out).mono ?_); rintro e w' ⟨rfl, ⟨nd, rfl⟩⟩; (try first | exact ⟨rfl, _, World.drewN_drewN _ _ _⟩ | exact ⟨rfl, _, Eq.trans (World.drewN_drewN _ _ _) (congrArg (World.drewN _) (Nat.add_assoc _ _ _))⟩))))
       go_roundg k1
       case measure => have := HK1.out; omega
       case rel => exact ⟨(wrap64 (x5_1 + 1)), zz, H', ⟨by have := HK1.out; omega⟩, by repeat (first | exact Drawn0.refl _ | apply Drawn0.step)⟩
     ·replace c6 := Bool.eq_false_iff.mpr c6
      subst c6
      rw [if_neg zfalse] at H
      obtain rfl := jN H
      have p157 : 0 ≤ (x5_1 : Int) := jB za
      have q157 : x5_1 < (l0.length : Int) := jB za
      obtain ⟨ad157, e157, hx157_0⟩ := jR HR0.out x5_1 p157 q157
      cases e157
      replace p157 := eq_true p157
      replace q157 := eq_true q157
      go_wp2_with (first | (go_at_call 78; (with_reducible refine (spec_l01In.calls (rd l0 x5_1) 0 (wrap64 (a1 - 1)) false _ A5.out).mono ?_); rintro e w' ⟨rfl, ⟨nd, rfl⟩⟩; (try first | exact ⟨rfl, _, World.drewN_drewN _ _ _⟩ | exact ⟨rfl, _, Eq.trans (World.drewN_drewN _ _ _) (congrArg (World.drewN _) (Nat.add_assoc _ _ _))⟩)))
      repeat (go_quiet (first | (go_at_call 78; (with_reducible refine (spec_l01In.calls (rd l0 x5_1) 0 (wrap64 (a1 - 1)) false _ A5.out).mono ?_); rintro e w' ⟨rfl, ⟨nd, rfl⟩⟩; (try first | exact ⟨rfl, _, World.drewN_drewN _ _ _⟩ | exact ⟨rfl, _, Eq.trans (World.drewN_drewN _ _ _) (congrArg (World.drewN _) (Nat.add_assoc _ _ _))⟩))); try go_wp2_with (first | (go_at_call 78; (with_reducible refine (spec_l01In.calls (rd l0 x5_1) 0 (wrap64 (a1 - 1)) false _ A5.out).mono ?_); rintro e w' ⟨rfl, ⟨nd, rfl⟩⟩; (try first | exact ⟨rfl, _, World.drewN_drewN _ _ _⟩ | exact ⟨rfl, _, Eq.trans (World.drewN_drewN _ _ _) (congrArg (World.drewN _) (Nat.add_assoc _ _ _))⟩))))
      go_ret
      exact ⟨by first | rfl | (simp; done) | (simp [*]; done), by repeat (first | exact Drawn0.refl _ | apply Drawn0.step)⟩
    ·rw [if_neg c4] at H
     exact absurd H (by simp)
   ·rw [if_neg c3] at H
    have c3b0 : decide (x5_1 < (l0.length : Int)) = false := jS c3
    clear c3
    obtain rfl := jN H
    go_wp2
    repeat (go_quiet (fail); try go_wp2)
    go_ret
    exact ⟨by first | rfl | (simp; done) | (simp [*]; done), by repeat (first | exact Drawn0.refl _ | apply Drawn0.step)⟩

/-! ### spec_l25Code: function 70 -/
def spec_l25Code.f (k : Nat) (a0_0 : Bool) (a0_1 : Bool) (a0_2 : Bool) (a0_3 : Bool) (a0_4 : Bool) (a0_5 : Int) (l1 : List Int) : Option (Int) := (spec_IsSound.f a0_0 a0_1 a0_2 a0_3 a0_4 a0_5).bind fun t162 => (if t162 = true then ((spec_l01Rises.f k l1 10).bind fun t163 => (if t163 = true then (some 0) else (some 1))) else (some 1))
theorem spec_l25Code.mono : ∀ a0 a1 a2 a3 a4 a5 a6 k, LeO (spec_l25Code.f k a0 a1 a2 a3 a4 a5 a6) (spec_l25Code.f (k + 1) a0 a1 a2 a3 a4 a5 a6) := by
 intro a0 a1 a2 a3 a4 a5 a6 k
 unfold spec_l25Code.f
 repeat' first
   | (with_reducible exact spec_l01Rises.mono _ _ _)
   | (with_reducible exact LeO.refl _)
   | (with_reducible exact LeO.none _)
   | (with_reducible refine LeO.ite ?_ ?_)
   | (with_reducible refine LeO.bind ?_ (fun _ => ?_))
   | exact spec_l01Rises.mono _ _ _
   | exact LeO.none _
   | refine LeO.ite ?_ ?_
   | refine LeO.bind ?_ (fun _ => ?_)
set_option maxHeartbeats 8000000 in
set_option maxRecDepth 100000 in
theorem spec_l25Code.calls (k : Nat) (a0_0 : Bool) (a0_1 : Bool) (a0_2 : Bool) (a0_3 : Bool) (a0_4 : Bool) (a0_5 : Int) (A1 : Option Addr) (c1 : Nat) (l1 : List Int) (r : Int) (w : World) (hr1 : Kd.C (Kd.int .i64) w A1 l1.length l1) (hc1 : l1.length ≤ c1) (h : spec_l25Code.f k a0_0 a0_1 a0_2 a0_3 a0_4 a0_5 l1 = some r) :
  Calls Try.prog 70 #[.agg #[.bool a0_0, .bool a0_1, .bool a0_2, .bool a0_3, .bool a0_4, .int .i64 a0_5], .slice A1 l1.length c1] w fun e w' => e = .returned (.int .i64 r) ∧ Below w.heap.size w w' := by
 have hu23 := Try.underlying23
 have HR1 := jA hr1
 have HC1 := jA hc1
 clear hr1 hc1
 have HB := jA (Below.refl w.heap.size w)
 have H := h
 unfold spec_l25Code.f at H
 clear h
 replace H := jC.mp H
 obtain ⟨t162, A30, H⟩ := H
 try dsimp only at H
 have A3 := jA A30
 clear A30
 by_cases c4 : t162 = true
 ·subst c4
  rw [if_pos rfl] at H
  replace H := jC.mp H
  obtain ⟨t163, A50, H⟩ := H
  try dsimp only at H
  have A5 := jA A50
  clear A50
  by_cases c6 : t163 = true
  ·subst c6
   rw [if_pos rfl] at H
   obtain rfl := jN H
   go_enter Try.func70, Try.ntmps70
   go_wp2_with (first | ((with_reducible refine jJ (N := 2) rfl ?_); refine zE 2 #[.bool a0_0, .bool a0_1, .bool a0_2, .bool a0_3, .bool a0_4, .int .i64 a0_5] 23 ?_; intro gb161 hg w7 hbox hb; have BK161 := jA (hbox); have GW161 := zg0 hg HB; have GE161 := zg0 hg HB; replace HB := zS0 HB hb; clear hb hbox hg; have hcz8 := zc6 BK161) | ((with_reducible refine jG (f := 51) rfl ?_); refine zL (some 6) Try.func51 #[.agg #[.bool a0_0, .bool a0_1, .bool a0_2, .bool a0_3, .bool a0_4, .int .i64 a0_5]] ?_; (with_reducible refine (spec_IsSound.calls a0_0 a0_1 a0_2 a0_3 a0_4 a0_5 true _ A3.out).mono ?_); rintro e w9 ⟨rfl, hb⟩; refine ⟨_, rfl, ?_⟩; replace BK161 := zB BK161 hb; replace HB := zS1 HB GE161 hb; clear hb) | (go_at_call 86; (with_reducible refine (spec_l01Rises.calls k _ _ l1 10 true _ ?side1 ?side2 A5.out).mono ?_); (case side1 => exact zs HR1 HB); (case side2 => exact HC1.out); rintro e w' ⟨rfl, ⟨nd, rfl⟩⟩))
   go_ret
   exact ⟨ze, zb1 HB GE161⟩
  ·replace c6 := Bool.eq_false_iff.mpr c6
   subst c6
   rw [if_neg zfalse] at H
   obtain rfl := jN H
   go_enter Try.func70, Try.ntmps70
   go_wp2_with (first | ((with_reducible refine jJ (N := 2) rfl ?_); refine zE 2 #[.bool a0_0, .bool a0_1, .bool a0_2, .bool a0_3, .bool a0_4, .int .i64 a0_5] 23 ?_; intro gb161 hg w10 hbox hb; have BK161 := jA (hbox); have GW161 := zg0 hg HB; have GE161 := zg0 hg HB; replace HB := zS0 HB hb; clear hb hbox hg; have hcz11 := zc6 BK161) | ((with_reducible refine jG (f := 51) rfl ?_); refine zL (some 6) Try.func51 #[.agg #[.bool a0_0, .bool a0_1, .bool a0_2, .bool a0_3, .bool a0_4, .int .i64 a0_5]] ?_; (with_reducible refine (spec_IsSound.calls a0_0 a0_1 a0_2 a0_3 a0_4 a0_5 true _ A3.out).mono ?_); rintro e w12 ⟨rfl, hb⟩; refine ⟨_, rfl, ?_⟩; replace BK161 := zB BK161 hb; replace HB := zS1 HB GE161 hb; clear hb) | (go_at_call 86; (with_reducible refine (spec_l01Rises.calls k _ _ l1 10 false _ ?side1 ?side2 A5.out).mono ?_); (case side1 => exact zs HR1 HB); (case side2 => exact HC1.out); rintro e w' ⟨rfl, ⟨nd, rfl⟩⟩))
   go_ret
   exact ⟨ze, zb1 HB GE161⟩
 ·replace c4 := Bool.eq_false_iff.mpr c4
  subst c4
  rw [if_neg zfalse] at H
  obtain rfl := jN H
  go_enter Try.func70, Try.ntmps70
  go_wp2_with (first | ((with_reducible refine jJ (N := 2) rfl ?_); refine zE 2 #[.bool a0_0, .bool a0_1, .bool a0_2, .bool a0_3, .bool a0_4, .int .i64 a0_5] 23 ?_; intro gb161 hg w13 hbox hb; have BK161 := jA (hbox); have GW161 := zg0 hg HB; have GE161 := zg0 hg HB; replace HB := zS0 HB hb; clear hb hbox hg; have hcz14 := zc6 BK161) | ((with_reducible refine jG (f := 51) rfl ?_); refine zL (some 6) Try.func51 #[.agg #[.bool a0_0, .bool a0_1, .bool a0_2, .bool a0_3, .bool a0_4, .int .i64 a0_5]] ?_; (with_reducible refine (spec_IsSound.calls a0_0 a0_1 a0_2 a0_3 a0_4 a0_5 false _ A3.out).mono ?_); rintro e w15 ⟨rfl, hb⟩; refine ⟨_, rfl, ?_⟩; replace BK161 := zB BK161 hb; replace HB := zS1 HB GE161 hb; clear hb))
  go_ret
  exact ⟨ze, zb1 HB GE161⟩

/-! ### spec_l21Off: function 91 -/
def spec_l21Off.f (a0_0 : Bool) (a0_1 : Bool) (a0_2 : Bool) (a0_3 : Bool) (a0_4 : Bool) (a0_5 : Int) : Option (Bool × Bool × Bool × Bool × Bool × Int) := some (a0_0, a0_1, false, false, a0_4, a0_5)
set_option maxHeartbeats 8000000 in
set_option maxRecDepth 100000 in
theorem spec_l21Off.calls (a0_0 : Bool) (a0_1 : Bool) (a0_2 : Bool) (a0_3 : Bool) (a0_4 : Bool) (a0_5 : Int) (r1 : Bool) (r2 : Bool) (r3 : Bool) (r4 : Bool) (r5 : Bool) (r6 : Int) (w : World) (h : spec_l21Off.f a0_0 a0_1 a0_2 a0_3 a0_4 a0_5 = some (r1, r2, r3, r4, r5, r6)) :
  Calls Try.prog 91 #[.agg #[.bool a0_0, .bool a0_1, .bool a0_2, .bool a0_3, .bool a0_4, .int .i64 a0_5]] w fun e w' => e = .returned (.agg #[.bool r1, .bool r2, .bool r3, .bool r4, .bool r5, .int .i64 r6]) ∧ Below w.heap.size w w' := by
 have hu23 := Try.underlying23
 have HB := jA (Below.refl w.heap.size w)
 have H := h
 unfold spec_l21Off.f at H
 clear h
 simp only [jH, jK] at H
 obtain ⟨rfl, rfl, rfl, rfl, rfl, rfl⟩ := H
 go_enter Try.func91, Try.ntmps91
 go_wp2_with (first | ((with_reducible refine jJ (N := 1) rfl ?_); refine zE 1 #[.bool a0_0, .bool a0_1, .bool a0_2, .bool a0_3, .bool a0_4, .int .i64 a0_5] 23 ?_; intro gb164 hg w2 hbox hb; have BK164 := jA (hbox); have GW164 := zg0 hg HB; have GE164 := zg0 hg HB; replace HB := zS0 HB hb; clear hb hbox hg) | ((with_reducible refine jJ (N := 2) rfl ?_); refine zE 2 #[.bool false, .bool false, .bool false, .bool false, .bool false, .int .i64 0] 23 ?_; intro gb165 hg w3 hbox hb; have BK165 := jA (hbox); have GW165 := zg1 hg HB GE164; have GE165 := zg1 hg HB GE164; replace HB := zS1 HB GE164 hb; have NB164_165 := zn hg BK164; replace BK164 := zB BK164 hb; have NB165_164 := jA NB164_165.out.symm; clear hb hbox hg; have hnb4 := NB164_165.out; have hnc4 := NB165_164.out; have hcz5 := zc6 BK164; have hcz6 := zc6 BK165))
 refine jQ (results_cell_row rfl _ _ gb165 23 #[.bool a0_0, .bool a0_1, .bool false, .bool false, .bool a0_4, .int .i64 a0_5] (0, 0) _ rfl (zP1 BK165 NB165_164) Try.underlying23 rfl zr) rfl ?_
 exact ⟨ze, zb2 HB GE164 GE165⟩

end Go.Proofs.Ythieppjmjgijfaa.PFnProofs
