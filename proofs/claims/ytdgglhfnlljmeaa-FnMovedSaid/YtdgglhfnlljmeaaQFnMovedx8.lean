/- Functions and contracts that FnMoved reaches (9 of 29). -/
import Derived.Test.YtdgglhfnlljmeaaQFnMovedx7
namespace Go.Proofs.Ytdgglhfnlljmeaa.PFnMoved
open Go.RowKit Go.Proofs.YtdgglhfnlljmeaaW.PrintWords Go.Proofs.YtdgglhfnlljmeaaW.PrintLast Go.Proofs.YtdgglhfnlljmeaaW.PrintMore
attribute [local go_sem] max2_int min2_int max_two min_two max_three min_three max_four min_four   -- for this text's walks alone
set_option linter.unusedVariables false
set_option linter.unusedSimpArgs false

/-! ### impl_within: function 61 -/
def impl_within.f (a0 : Int) (a1 : Int) (a2 : Int) : Option (Bool) := if a1 ≤ a0 then (some (decide (a0 ≤ a2))) else (some false)
set_option maxHeartbeats 8000000 in
set_option maxRecDepth 100000 in
theorem impl_within.calls (a0 : Int) (a1 : Int) (a2 : Int) (r : Bool) (w : World) (h : impl_within.f a0 a1 a2 = some r) :
  Calls Try.prog 61 #[.int .i64 a0, .int .i64 a1, .int .i64 a2] w fun e w' => e = .returned (.bool r) ∧ Drawn0 w w' := by
 have H : (if a1 ≤ a0 then (some (decide (a0 ≤ a2))) else (some false)) = some r := h
 clear h
 by_cases c4 : a1 ≤ a0
 ·rw [if_pos c4] at H
  have c4b0 : decide (a1 ≤ a0) = true := jK c4
  clear c4
  obtain rfl := jN H
  go_enter Try.func61, Try.ntmps61
  go_wp2
  go_ret
  exact ⟨by first | rfl | (simp; done) | (simp [*]; done), by repeat (first | exact Drawn0.refl _ | apply Drawn0.step)⟩
 ·rw [if_neg c4] at H
  have c4b0 : decide (a1 ≤ a0) = false := jV c4
  clear c4
  obtain rfl := jN H
  go_enter Try.func61, Try.ntmps61
  go_wp2
  go_ret
  exact ⟨by first | rfl | (simp; done) | (simp [*]; done), by repeat (first | exact Drawn0.refl _ | apply Drawn0.step)⟩

/-! ### impl_IsWord: function 90 -/
mutual
def impl_IsWord.j0 : Nat → ByteArray → Bool → Option (Bool)
 | 0, _, _ => none
 | k + 1, x0, x11 => if x11 = true then (some false) else (impl_IsWord.l0 k x0 0)
def impl_IsWord.l0 : Nat → ByteArray → Int → Option (Bool)
 | 0, _, _ => none
 | k + 1, x0, x3 => if x3 < (x0.size : Int) then (if 0 ≤ x3 then (if (bt x0 x3) < 97 then (some false) else (if (bt x0 x3) > 122 then (some false) else (impl_IsWord.l0 k x0 (wrap64 (x3 + 1))))) else (none)) else (some true)
end
def impl_IsWord.f (k : Nat) (a0 : ByteArray) : Option (Bool) := if (a0.size : Int) < 1 then (impl_IsWord.j0 k a0 true) else (impl_IsWord.j0 k a0 (decide ((a0.size : Int) > 16)))
theorem impl_IsWord.mono_l : ∀ k, (∀ y0 y1, LeO (impl_IsWord.j0 k y0 y1) (impl_IsWord.j0 (k + 1) y0 y1)) ∧ (∀ y0 y1, LeO (impl_IsWord.l0 k y0 y1) (impl_IsWord.l0 (k + 1) y0 y1))
 | 0 => ⟨fun _ _ r h => by simp [impl_IsWord.j0] at h, fun _ _ r h => by simp [impl_IsWord.l0] at h⟩
 | k + 1 => by
  obtain ⟨ih0, ih1⟩ := impl_IsWord.mono_l k
  refine ⟨?_, ?_⟩
  ·intro y0 y1
   unfold impl_IsWord.j0
   repeat' first
   | (with_reducible exact ih0 _ _)
   | (with_reducible exact ih1 _ _)
   | (with_reducible exact LeO.refl _)
   | (with_reducible exact LeO.none _)
   | (with_reducible refine LeO.ite ?_ ?_)
   | (with_reducible refine LeO.bind ?_ (fun _ => ?_))
   | exact ih0 _ _
   | exact ih1 _ _
   | exact LeO.none _
   | refine LeO.ite ?_ ?_
   | refine LeO.bind ?_ (fun _ => ?_)
  ·intro y0 y1
   unfold impl_IsWord.l0
   repeat' first
   | (with_reducible exact ih0 _ _)
   | (with_reducible exact ih1 _ _)
   | (with_reducible exact LeO.refl _)
   | (with_reducible exact LeO.none _)
   | (with_reducible refine LeO.ite ?_ ?_)
   | (with_reducible refine LeO.bind ?_ (fun _ => ?_))
   | exact ih0 _ _
   | exact ih1 _ _
   | exact LeO.none _
   | refine LeO.ite ?_ ?_
   | refine LeO.bind ?_ (fun _ => ?_)
theorem impl_IsWord.mono : ∀ a0 k, LeO (impl_IsWord.f k a0) (impl_IsWord.f (k + 1) a0) := by
 intro a0 k
 obtain ⟨ih0, ih1⟩ := impl_IsWord.mono_l k
 unfold impl_IsWord.f
 repeat' first
   | (with_reducible exact ih0 _ _)
   | (with_reducible exact ih1 _ _)
   | (with_reducible exact LeO.refl _)
   | (with_reducible exact LeO.none _)
   | (with_reducible refine LeO.ite ?_ ?_)
   | (with_reducible refine LeO.bind ?_ (fun _ => ?_))
   | exact ih0 _ _
   | exact ih1 _ _
   | exact LeO.none _
   | refine LeO.ite ?_ ?_
   | refine LeO.bind ?_ (fun _ => ?_)
set_option maxHeartbeats 8000000 in
set_option maxRecDepth 100000 in
theorem impl_IsWord.calls (k : Nat) (a0 : ByteArray) (r : Bool) (w : World) (h : impl_IsWord.f k a0 = some r) :
  Calls Try.prog 90 #[.string a0] w fun e w' => e = .returned (.bool r) ∧ Drawn0 w w' := by
 have H := h
 unfold impl_IsWord.f at H
 clear h
 have HC2 := jA H
 clear H
 go_enter Try.func90, Try.ntmps90
 go_upto_region 1 with (fail)
 go_cut [11] (fun v11 wc => ∃ (kq : Nat) (x11_1 : Bool), v11 = .bool x11_1 ∧ Aside0 (impl_IsWord.j0 kq a0 x11_1 = some r) ∧ Aside0 (kq ≤ k) ∧ Drawn0 w wc)
 case first =>
  have H := HC2.out
  clear HC2
  by_cases c3 : (a0.size : Int) < 1
  ·rw [if_pos c3] at H
   have c3b0 : decide ((a0.size : Int) < 1) = true := jK c3
   have c3b1 : decide (a0.size < 1) = true := jK (by omega)
   clear c3
   (first | rw [c3b0] | (simp only [i64_w, i32_w]; rw [c3b0]) | rw [c3b1] | skip)
   have H' := jA H
   clear H
   go_wp2
   go_meet
   case rel => exact ⟨_, (true), zz, H', ⟨by first | omega | exact Nat.le_refl _⟩, by repeat (first | exact Drawn0.refl _ | apply Drawn0.step)⟩
  ·rw [if_neg c3] at H
   have c3b0 : decide ((a0.size : Int) < 1) = false := jV c3
   have c3b1 : decide (a0.size < 1) = false := jV (by omega)
   clear c3
   (first | rw [c3b0] | (simp only [i64_w, i32_w]; rw [c3b0]) | rw [c3b1] | skip)
   have H' := jA H
   clear H
   go_wp2
   go_meet
   case rel => exact ⟨_, (decide ((a0.size : Int) > 16)), zz, H', ⟨by first | omega | exact Nat.le_refl _⟩, by repeat (first | exact Drawn0.refl _ | apply Drawn0.step)⟩
 case rest =>
  clear HC2
  try clear p2
  try clear c3
  try clear c3b0
  try clear c3b1
  obtain ⟨kq, x11_1, rfl, HA, HJ1, ⟨mc1, rfl⟩⟩ := hcut
  cases kq with
  | zero => exact absurd HA.out (by simp [impl_IsWord.j0])
  | succ kj1 =>
   have H := HA.out
   clear HA
   simp only [impl_IsWord.j0] at H
   by_cases c4 : x11_1 = true
   ·subst c4
    rw [if_pos rfl] at H
    obtain rfl := jN H
    go_wp2
    go_ret
    exact ⟨by first | rfl | (simp; done) | (simp [*]; done), by repeat (first | exact Drawn0.refl _ | apply Drawn0.step)⟩
   ·replace c4 := Bool.eq_false_iff.mpr c4
    subst c4
    rw [if_neg zfalse] at H
    have H' := jA H
    clear H
    go_wp2
    go_loopg [3] kj1 (fun kq v3 w' => ∃ (x3_2 : Int), v3 = .int .i64 x3_2 ∧ Aside0 (impl_IsWord.l0 kq a0 x3_2 = some r) ∧ Aside0 (kq ≤ kj1) ∧ Drawn0 w w')
    case atStart => exact ⟨(0), zz, H', ⟨Nat.le_refl _⟩, by repeat (first | exact Drawn0.refl _ | apply Drawn0.step)⟩
    case round =>
     clear H'
     try clear c1
     try clear p2
     try clear c3
     try clear c3b0
     try clear c3b1
     try clear c4
     try clear p2
     obtain ⟨x3_2, rfl, HA, HK2, ⟨m2, rfl⟩⟩ := hrel
     cases gk with
     | zero => exact absurd HA.out (by simp [impl_IsWord.l0])
     | succ k2 =>
      have H := HA.out
      clear HA
      simp only [impl_IsWord.l0] at H
      by_cases c5 : x3_2 < (a0.size : Int)
      ·rw [if_pos c5] at H
       have c5b0 : decide (x3_2 < (a0.size : Int)) = true := jK c5
       clear c5
       by_cases c6 : 0 ≤ x3_2
       ·rw [if_pos c6] at H
        have c6b0 : decide (0 ≤ x3_2) = true := jK c6
        clear c6
        by_cases c8 : (bt a0 x3_2) < 97
        ·rw [if_pos c8] at H
         have c8b0 : decide ((bt a0 x3_2) < 97) = true := jK c8
         clear c8
         obtain rfl := jN H
         have p7 : 0 ≤ (x3_2 : Int) := jD za
         have q7 : x3_2 < (a0.size : Int) := jD za
         have hx7 := bt_at a0 x3_2
         replace p7 := eq_true p7
         replace q7 := eq_true q7
         go_wp2
         go_ret
         exact ⟨by first | rfl | (simp; done) | (simp [*]; done), by repeat (first | exact Drawn0.refl _ | apply Drawn0.step)⟩
        ·rw [if_neg c8] at H
         have c8b0 : decide ((bt a0 x3_2) < 97) = false := jV c8
         clear c8
         by_cases c10 : (bt a0 x3_2) > 122
         ·rw [if_pos c10] at H
          have c10b0 : decide (122 < (bt a0 x3_2)) = true := jK c10
          clear c10
          obtain rfl := jN H
          have p7 : 0 ≤ (x3_2 : Int) := jD za
          have q7 : x3_2 < (a0.size : Int) := jD za
          have hx7 := bt_at a0 x3_2
          replace p7 := eq_true p7
          replace q7 := eq_true q7
          have p9 : 0 ≤ (x3_2 : Int) := jD za
          have q9 : x3_2 < (a0.size : Int) := jD za
          have hx9 := bt_at a0 x3_2
          replace p9 := eq_true p9
          replace q9 := eq_true q9
          go_wp2
          go_ret
          exact ⟨by first | rfl | (simp; done) | (simp [*]; done), by repeat (first | exact Drawn0.refl _ | apply Drawn0.step)⟩
         ·rw [if_neg c10] at H
          have c10b0 : decide (122 < (bt a0 x3_2)) = false := jV c10
          clear c10
          have H' := jA H
          clear H
          have p7 : 0 ≤ (x3_2 : Int) := jD za
          have q7 : x3_2 < (a0.size : Int) := jD za
          have hx7 := bt_at a0 x3_2
          replace p7 := eq_true p7
          replace q7 := eq_true q7
          have p9 : 0 ≤ (x3_2 : Int) := jD za
          have q9 : x3_2 < (a0.size : Int) := jD za
          have hx9 := bt_at a0 x3_2
          replace p9 := eq_true p9
          replace q9 := eq_true q9
          go_wp2
          go_roundg k2
          case measure => have := HJ1.out; have := HK2.out; omega
          case rel => exact ⟨(wrap64 (x3_2 + 1)), zz, H', ⟨by have := HJ1.out; have := HK2.out; omega⟩, by repeat (first | exact Drawn0.refl _ | apply Drawn0.step)⟩
       ·rw [if_neg c6] at H
        exact absurd H (by simp)
      ·rw [if_neg c5] at H
       have c5b0 : decide (x3_2 < (a0.size : Int)) = false := jV c5
       clear c5
       obtain rfl := jN H
       go_wp2
       go_ret
       exact ⟨by first | rfl | (simp; done) | (simp [*]; done), by repeat (first | exact Drawn0.refl _ | apply Drawn0.step)⟩

/-! ### impl_IsArticle: function 84 -/
def impl_IsArticle.f (k : Nat) (a0_0 : ByteArray) (a0_1 : Int) (a0_2 : Int) (a0_3 : Int) (a0_4 : Int) (a0_5 : Int) (a0_6 : Int) (a0_7 : Int) (a0_8 : Int) : Option (Bool) := (impl_IsWord.f k a0_0).bind fun t191 => (if t191 = true then ((impl_within.f a0_1 0 3).bind fun t192 => (if t192 = true then ((impl_within.f a0_2 20 300).bind fun t193 => (if t193 = true then ((impl_within.f a0_3 0 10000).bind fun t194 => (if t194 = true then ((impl_within.f a0_4 0 a0_3).bind fun t195 => (if t195 = true then ((impl_within.f a0_5 1 50).bind fun t196 => (if t196 = true then ((impl_within.f a0_6 0 10000).bind fun t197 => (if t197 = true then ((impl_within.f a0_7 1 100000).bind fun t198 => (if t198 = true then ((impl_within.f a0_8 0 3).bind fun t199 => (some t199)) else (some false))) else (some false))) else (some false))) else (some false))) else (some false))) else (some false))) else (some false))) else (some false))
theorem impl_IsArticle.mono : ∀ a0 a1 a2 a3 a4 a5 a6 a7 a8 k, LeO (impl_IsArticle.f k a0 a1 a2 a3 a4 a5 a6 a7 a8) (impl_IsArticle.f (k + 1) a0 a1 a2 a3 a4 a5 a6 a7 a8) := by
 intro a0 a1 a2 a3 a4 a5 a6 a7 a8 k
 unfold impl_IsArticle.f
 repeat' first
   | (with_reducible exact impl_IsWord.mono _ _)
   | (with_reducible exact LeO.refl _)
   | (with_reducible exact LeO.none _)
   | (with_reducible refine LeO.ite ?_ ?_)
   | (with_reducible refine LeO.bind ?_ (fun _ => ?_))
   | exact impl_IsWord.mono _ _
   | exact LeO.none _
   | refine LeO.ite ?_ ?_
   | refine LeO.bind ?_ (fun _ => ?_)
set_option maxHeartbeats 8000000 in
set_option maxRecDepth 100000 in
theorem impl_IsArticle.calls (k : Nat) (a0_0 : ByteArray) (a0_1 : Int) (a0_2 : Int) (a0_3 : Int) (a0_4 : Int) (a0_5 : Int) (a0_6 : Int) (a0_7 : Int) (a0_8 : Int) (r : Bool) (w : World) (h : impl_IsArticle.f k a0_0 a0_1 a0_2 a0_3 a0_4 a0_5 a0_6 a0_7 a0_8 = some r) :
  Calls Try.prog 84 #[.agg #[.string a0_0, .int .i64 a0_1, .int .i64 a0_2, .int .i64 a0_3, .int .i64 a0_4, .int .i64 a0_5, .int .i64 a0_6, .int .i64 a0_7, .int .i64 a0_8]] w fun e w' => e = .returned (.bool r) ∧ Below w.heap.size w w' := by
 have hu65 := Try.underlying65
 have HB := jA (Below.refl w.heap.size w)
 have H := h
 unfold impl_IsArticle.f at H
 clear h
 replace H := jB.mp H
 obtain ⟨t191, A20, H⟩ := H
 try dsimp only at H
 have A2 := jA A20
 clear A20
 by_cases c3 : t191 = true
 ·subst c3
  rw [if_pos rfl] at H
  replace H := jB.mp H
  obtain ⟨t192, A40, H⟩ := H
  try dsimp only at H
  have A4 := jA A40
  clear A40
  by_cases c5 : t192 = true
  ·subst c5
   rw [if_pos rfl] at H
   replace H := jB.mp H
   obtain ⟨t193, A60, H⟩ := H
   try dsimp only at H
   have A6 := jA A60
   clear A60
   by_cases c7 : t193 = true
   ·subst c7
    rw [if_pos rfl] at H
    replace H := jB.mp H
    obtain ⟨t194, A80, H⟩ := H
    try dsimp only at H
    have A8 := jA A80
    clear A80
    by_cases c9 : t194 = true
    ·subst c9
     rw [if_pos rfl] at H
     replace H := jB.mp H
     obtain ⟨t195, A100, H⟩ := H
     try dsimp only at H
     have A10 := jA A100
     clear A100
     by_cases c11 : t195 = true
     ·subst c11
      rw [if_pos rfl] at H
      replace H := jB.mp H
      obtain ⟨t196, A120, H⟩ := H
      try dsimp only at H
      have A12 := jA A120
      clear A120
      by_cases c13 : t196 = true
      ·subst c13
       rw [if_pos rfl] at H
       replace H := jB.mp H
       obtain ⟨t197, A140, H⟩ := H
       try dsimp only at H
       have A14 := jA A140
       clear A140
       by_cases c15 : t197 = true
       ·subst c15
        rw [if_pos rfl] at H
        replace H := jB.mp H
        obtain ⟨t198, A160, H⟩ := H
        try dsimp only at H
        have A16 := jA A160
        clear A160
        by_cases c17 : t198 = true
        ·subst c17
         rw [if_pos rfl] at H
         replace H := jB.mp H
         obtain ⟨t199, A180, H⟩ := H
         replace H : (some t199) = some r := H
         have A18 := jA A180
         clear A180
         obtain rfl := jN H
         go_enter Try.func84, Try.ntmps84
         go_wp2_with (first | ((with_reducible refine jJ (N := 1) rfl ?_); refine zE 1 #[.string a0_0, .int .i64 a0_1, .int .i64 a0_2, .int .i64 a0_3, .int .i64 a0_4, .int .i64 a0_5, .int .i64 a0_6, .int .i64 a0_7, .int .i64 a0_8] 65 ?_; intro gb190 hg w19 hbox hb; have BK190 := jA (hbox); have GW190 := zg0 hg HB; have GE190 := zg0 hg HB; replace HB := zS0 HB hb; clear hb hbox hg; have hcz20 := zc9 BK190) | ((with_reducible refine jG (f := 90) rfl ?_); refine zL (some 5) Try.func90 #[.string a0_0] ?_; (with_reducible refine (impl_IsWord.calls k a0_0 true _ A2.out).mono ?_); rintro e w' ⟨rfl, ⟨nd, rfl⟩⟩; refine ⟨_, rfl, ?_⟩) | (go_at_call 61; (with_reducible refine (impl_within.calls a0_1 0 3 true _ A4.out).mono ?_); rintro e w' ⟨rfl, ⟨nd, rfl⟩⟩) | (go_at_call 61; (with_reducible refine (impl_within.calls a0_2 20 300 true _ A6.out).mono ?_); rintro e w' ⟨rfl, ⟨nd, rfl⟩⟩) | (go_at_call 61; (with_reducible refine (impl_within.calls a0_3 0 10000 true _ A8.out).mono ?_); rintro e w' ⟨rfl, ⟨nd, rfl⟩⟩) | (go_at_call 61; (with_reducible refine (impl_within.calls a0_4 0 a0_3 true _ A10.out).mono ?_); rintro e w' ⟨rfl, ⟨nd, rfl⟩⟩) | (go_at_call 61; (with_reducible refine (impl_within.calls a0_5 1 50 true _ A12.out).mono ?_); rintro e w' ⟨rfl, ⟨nd, rfl⟩⟩) | (go_at_call 61; (with_reducible refine (impl_within.calls a0_6 0 10000 true _ A14.out).mono ?_); rintro e w' ⟨rfl, ⟨nd, rfl⟩⟩) | (go_at_call 61; (with_reducible refine (impl_within.calls a0_7 1 100000 true _ A16.out).mono ?_); rintro e w' ⟨rfl, ⟨nd, rfl⟩⟩) | (go_at_call 61; (with_reducible refine (impl_within.calls a0_8 0 3 t199 _ A18.out).mono ?_); rintro e w' ⟨rfl, ⟨nd, rfl⟩⟩))
         go_ret
         exact ⟨ze, zb1 HB GE190⟩
        ·replace c17 := Bool.eq_false_iff.mpr c17
         subst c17
         rw [if_neg zfalse] at H
         obtain rfl := jN H
         go_enter Try.func84, Try.ntmps84
         go_wp2_with (first | ((with_reducible refine jJ (N := 1) rfl ?_); refine zE 1 #[.string a0_0, .int .i64 a0_1, .int .i64 a0_2, .int .i64 a0_3, .int .i64 a0_4, .int .i64 a0_5, .int .i64 a0_6, .int .i64 a0_7, .int .i64 a0_8] 65 ?_; intro gb190 hg w21 hbox hb; have BK190 := jA (hbox); have GW190 := zg0 hg HB; have GE190 := zg0 hg HB; replace HB := zS0 HB hb; clear hb hbox hg; have hcz22 := zc9 BK190) | ((with_reducible refine jG (f := 90) rfl ?_); refine zL (some 5) Try.func90 #[.string a0_0] ?_; (with_reducible refine (impl_IsWord.calls k a0_0 true _ A2.out).mono ?_); rintro e w' ⟨rfl, ⟨nd, rfl⟩⟩; refine ⟨_, rfl, ?_⟩) | (go_at_call 61; (with_reducible refine (impl_within.calls a0_1 0 3 true _ A4.out).mono ?_); rintro e w' ⟨rfl, ⟨nd, rfl⟩⟩) | (go_at_call 61; (with_reducible refine (impl_within.calls a0_2 20 300 true _ A6.out).mono ?_); rintro e w' ⟨rfl, ⟨nd, rfl⟩⟩) | (go_at_call 61; (with_reducible refine (impl_within.calls a0_3 0 10000 true _ A8.out).mono ?_); rintro e w' ⟨rfl, ⟨nd, rfl⟩⟩) | (go_at_call 61; (with_reducible refine (impl_within.calls a0_4 0 a0_3 true _ A10.out).mono ?_); rintro e w' ⟨rfl, ⟨nd, rfl⟩⟩) | (go_at_call 61; (with_reducible refine (impl_within.calls a0_5 1 50 true _ A12.out).mono ?_); rintro e w' ⟨rfl, ⟨nd, rfl⟩⟩) | (go_at_call 61; (with_reducible refine (impl_within.calls a0_6 0 10000 true _ A14.out).mono ?_); rintro e w' ⟨rfl, ⟨nd, rfl⟩⟩) | (go_at_call 61; (with_reducible refine (impl_within.calls a0_7 1 100000 false _ A16.out).mono ?_); rintro e w' ⟨rfl, ⟨nd, rfl⟩⟩))
         go_ret
         exact ⟨ze, zb1 HB GE190⟩
       ·replace c15 := Bool.eq_false_iff.mpr c15
        subst c15
        rw [if_neg zfalse] at H
        obtain rfl := jN H
        go_enter Try.func84, Try.ntmps84
        go_wp2_with (first | ((with_reducible refine jJ (N := 1) rfl ?_); refine zE 1 #[.string a0_0, .int .i64 a0_1, .int .i64 a0_2, .int .i64 a0_3, .int .i64 a0_4, .int .i64 a0_5, .int .i64 a0_6, .int .i64 a0_7, .int .i64 a0_8] 65 ?_; intro gb190 hg w23 hbox hb; have BK190 := jA (hbox); have GW190 := zg0 hg HB; have GE190 := zg0 hg HB; replace HB := zS0 HB hb; clear hb hbox hg; have hcz24 := zc9 BK190) | ((with_reducible refine jG (f := 90) rfl ?_); refine zL (some 5) Try.func90 #[.string a0_0] ?_; (with_reducible refine (impl_IsWord.calls k a0_0 true _ A2.out).mono ?_); rintro e w' ⟨rfl, ⟨nd, rfl⟩⟩; refine ⟨_, rfl, ?_⟩) | (go_at_call 61; (with_reducible refine (impl_within.calls a0_1 0 3 true _ A4.out).mono ?_); rintro e w' ⟨rfl, ⟨nd, rfl⟩⟩) | (go_at_call 61; (with_reducible refine (impl_within.calls a0_2 20 300 true _ A6.out).mono ?_); rintro e w' ⟨rfl, ⟨nd, rfl⟩⟩) | (go_at_call 61; (with_reducible refine (impl_within.calls a0_3 0 10000 true _ A8.out).mono ?_); rintro e w' ⟨rfl, ⟨nd, rfl⟩⟩) | (go_at_call 61; (with_reducible refine (impl_within.calls a0_4 0 a0_3 true _ A10.out).mono ?_); rintro e w' ⟨rfl, ⟨nd, rfl⟩⟩) | (go_at_call 61; (with_reducible refine (impl_within.calls a0_5 1 50 true _ A12.out).mono ?_); rintro e w' ⟨rfl, ⟨nd, rfl⟩⟩) | (go_at_call 61; (with_reducible refine (impl_within.calls a0_6 0 10000 false _ A14.out).mono ?_); rintro e w' ⟨rfl, ⟨nd, rfl⟩⟩))
        go_ret
        exact ⟨ze, zb1 HB GE190⟩
      ·replace c13 := Bool.eq_false_iff.mpr c13
       subst c13
       rw [if_neg zfalse] at H
       obtain rfl := jN H
       go_enter Try.func84, Try.ntmps84
       go_wp2_with (first | ((with_reducible refine jJ (N := 1) rfl ?_); refine zE 1 #[.string a0_0, .int .i64 a0_1, .int .i64 a0_2, .int .i64 a0_3, .int .i64 a0_4, .int .i64 a0_5, .int .i64 a0_6, .int .i64 a0_7, .int .i64 a0_8] 65 ?_; intro gb190 hg w25 hbox hb; have BK190 := jA (hbox); have GW190 := zg0 hg HB; have GE190 := zg0 hg HB; replace HB := zS0 HB hb; clear hb hbox hg; have hcz26 := zc9 BK190) | ((with_reducible refine jG (f := 90) rfl ?_); refine zL (some 5) Try.func90 #[.string a0_0] ?_; (with_reducible refine (impl_IsWord.calls k a0_0 true _ A2.out).mono ?_); rintro e w' ⟨rfl, ⟨nd, rfl⟩⟩; refine ⟨_, rfl, ?_⟩) | (go_at_call 61; (with_reducible refine (impl_within.calls a0_1 0 3 true _ A4.out).mono ?_); rintro e w' ⟨rfl, ⟨nd, rfl⟩⟩) | (go_at_call 61; (with_reducible refine (impl_within.calls a0_2 20 300 true _ A6.out).mono ?_); rintro e w' ⟨rfl, ⟨nd, rfl⟩⟩) | (go_at_call 61; (with_reducible refine (impl_within.calls a0_3 0 10000 true _ A8.out).mono ?_); rintro e w' ⟨rfl, ⟨nd, rfl⟩⟩) | (go_at_call 61; (with_reducible refine (impl_within.calls a0_4 0 a0_3 true _ A10.out).mono ?_); rintro e w' ⟨rfl, ⟨nd, rfl⟩⟩) | (go_at_call 61; (with_reducible refine (impl_within.calls a0_5 1 50 false _ A12.out).mono ?_); rintro e w' ⟨rfl, ⟨nd, rfl⟩⟩))
       go_ret
       exact ⟨ze, zb1 HB GE190⟩
     ·replace c11 := Bool.eq_false_iff.mpr c11
      subst c11
      rw [if_neg zfalse] at H
      obtain rfl := jN H
      go_enter Try.func84, Try.ntmps84
      go_wp2_with (first | ((with_reducible refine jJ (N := 1) rfl ?_); refine zE 1 #[.string a0_0, .int .i64 a0_1, .int .i64 a0_2, .int .i64 a0_3, .int .i64 a0_4, .int .i64 a0_5, .int .i64 a0_6, .int .i64 a0_7, .int .i64 a0_8] 65 ?_; intro gb190 hg w27 hbox hb; have BK190 := jA (hbox); have GW190 := zg0 hg HB; have GE190 := zg0 hg HB; replace HB := zS0 HB hb; clear hb hbox hg; have hcz28 := zc9 BK190) | ((with_reducible refine jG (f := 90) rfl ?_); refine zL (some 5) Try.func90 #[.string a0_0] ?_; (with_reducible refine (impl_IsWord.calls k a0_0 true _ A2.out).mono ?_); rintro e w' ⟨rfl, ⟨nd, rfl⟩⟩; refine ⟨_, rfl, ?_⟩) | (go_at_call 61; (with_reducible refine (impl_within.calls a0_1 0 3 true _ A4.out).mono ?_); rintro e w' ⟨rfl, ⟨nd, rfl⟩⟩) | (go_at_call 61; (with_reducible refine (impl_within.calls a0_2 20 300 true _ A6.out).mono ?_); rintro e w' ⟨rfl, ⟨nd, rfl⟩⟩) | (go_at_call 61; (with_reducible refine (impl_within.calls a0_3 0 10000 true _ A8.out).mono ?_); rintro e w' ⟨rfl, ⟨nd, rfl⟩⟩) | (go_at_call 61; (with_reducible refine (impl_within.calls a0_4 0 a0_3 false _ A10.out).mono ?_); rintro e w' ⟨rfl, ⟨nd, rfl⟩⟩))
      go_ret
      exact ⟨ze, zb1 HB GE190⟩
    ·replace c9 := Bool.eq_false_iff.mpr c9
     subst c9
     rw [if_neg zfalse] at H
     obtain rfl := jN H
     go_enter Try.func84, Try.ntmps84
     go_wp2_with (first | ((with_reducible refine jJ (N := 1) rfl ?_); refine zE 1 #[.string a0_0, .int .i64 a0_1, .int .i64 a0_2, .int .i64 a0_3, .int .i64 a0_4, .int .i64 a0_5, .int .i64 a0_6, .int .i64 a0_7, .int .i64 a0_8] 65 ?_; intro gb190 hg w29 hbox hb; have BK190 := jA (hbox); have GW190 := zg0 hg HB; have GE190 := zg0 hg HB; replace HB := zS0 HB hb; clear hb hbox hg; have hcz30 := zc9 BK190) | ((with_reducible refine jG (f := 90) rfl ?_); refine zL (some 5) Try.func90 #[.string a0_0] ?_; (with_reducible refine (impl_IsWord.calls k a0_0 true _ A2.out).mono ?_); rintro e w' ⟨rfl, ⟨nd, rfl⟩⟩; refine ⟨_, rfl, ?_⟩) | (go_at_call 61; (with_reducible refine (impl_within.calls a0_1 0 3 true _ A4.out).mono ?_); rintro e w' ⟨rfl, ⟨nd, rfl⟩⟩) | (go_at_call 61; (with_reducible refine (impl_within.calls a0_2 20 300 true _ A6.out).mono ?_); rintro e w' ⟨rfl, ⟨nd, rfl⟩⟩) | (go_at_call 61; (with_reducible refine (impl_within.calls a0_3 0 10000 false _ A8.out).mono ?_); rintro e w' ⟨rfl, ⟨nd, rfl⟩⟩))
     go_ret
     exact ⟨ze, zb1 HB GE190⟩
   ·replace c7 := Bool.eq_false_iff.mpr c7
    subst c7
    rw [if_neg zfalse] at H
    obtain rfl := jN H
    go_enter Try.func84, Try.ntmps84
    go_wp2_with (first | ((with_reducible refine jJ (N := 1) rfl ?_); refine zE 1 #[.string a0_0, .int .i64 a0_1, .int .i64 a0_2, .int .i64 a0_3, .int .i64 a0_4, .int .i64 a0_5, .int .i64 a0_6, .int .i64 a0_7, .int .i64 a0_8] 65 ?_; intro gb190 hg w31 hbox hb; have BK190 := jA (hbox); have GW190 := zg0 hg HB; have GE190 := zg0 hg HB; replace HB := zS0 HB hb; clear hb hbox hg; have hcz32 := zc9 BK190) | ((with_reducible refine jG (f := 90) rfl ?_); refine zL (some 5) Try.func90 #[.string a0_0] ?_; (with_reducible refine (impl_IsWord.calls k a0_0 true _ A2.out).mono ?_); rintro e w' ⟨rfl, ⟨nd, rfl⟩⟩; refine ⟨_, rfl, ?_⟩) | (go_at_call 61; (with_reducible refine (impl_within.calls a0_1 0 3 true _ A4.out).mono ?_); rintro e w' ⟨rfl, ⟨nd, rfl⟩⟩) | (go_at_call 61; (with_reducible refine (impl_within.calls a0_2 20 300 false _ A6.out).mono ?_); rintro e w' ⟨rfl, ⟨nd, rfl⟩⟩))
    go_ret
    exact ⟨ze, zb1 HB GE190⟩
  ·replace c5 := Bool.eq_false_iff.mpr c5
   subst c5
   rw [if_neg zfalse] at H
   obtain rfl := jN H
   go_enter Try.func84, Try.ntmps84
   go_wp2_with (first | ((with_reducible refine jJ (N := 1) rfl ?_); refine zE 1 #[.string a0_0, .int .i64 a0_1, .int .i64 a0_2, .int .i64 a0_3, .int .i64 a0_4, .int .i64 a0_5, .int .i64 a0_6, .int .i64 a0_7, .int .i64 a0_8] 65 ?_; intro gb190 hg w33 hbox hb; have BK190 := jA (hbox); have GW190 := zg0 hg HB; have GE190 := zg0 hg HB; replace HB := zS0 HB hb; clear hb hbox hg; have hcz34 := zc9 BK190) | ((with_reducible refine jG (f := 90) rfl ?_); refine zL (some 5) Try.func90 #[.string a0_0] ?_; (with_reducible refine (impl_IsWord.calls k a0_0 true _ A2.out).mono ?_); rintro e w' ⟨rfl, ⟨nd, rfl⟩⟩; refine ⟨_, rfl, ?_⟩) | (go_at_call 61; (with_reducible refine (impl_within.calls a0_1 0 3 false _ A4.out).mono ?_); rintro e w' ⟨rfl, ⟨nd, rfl⟩⟩))
   go_ret
   exact ⟨ze, zb1 HB GE190⟩
 ·replace c3 := Bool.eq_false_iff.mpr c3
  subst c3
  rw [if_neg zfalse] at H
  obtain rfl := jN H
  go_enter Try.func84, Try.ntmps84
  go_wp2_with (first | ((with_reducible refine jJ (N := 1) rfl ?_); refine zE 1 #[.string a0_0, .int .i64 a0_1, .int .i64 a0_2, .int .i64 a0_3, .int .i64 a0_4, .int .i64 a0_5, .int .i64 a0_6, .int .i64 a0_7, .int .i64 a0_8] 65 ?_; intro gb190 hg w35 hbox hb; have BK190 := jA (hbox); have GW190 := zg0 hg HB; have GE190 := zg0 hg HB; replace HB := zS0 HB hb; clear hb hbox hg; have hcz36 := zc9 BK190) | ((with_reducible refine jG (f := 90) rfl ?_); refine zL (some 5) Try.func90 #[.string a0_0] ?_; (with_reducible refine (impl_IsWord.calls k a0_0 false _ A2.out).mono ?_); rintro e w' ⟨rfl, ⟨nd, rfl⟩⟩; refine ⟨_, rfl, ?_⟩))
  go_ret
  exact ⟨ze, zb1 HB GE190⟩

end Go.Proofs.Ytdgglhfnlljmeaa.PFnMoved
