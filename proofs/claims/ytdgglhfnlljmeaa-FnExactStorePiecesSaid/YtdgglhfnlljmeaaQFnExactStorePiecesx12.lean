/- Functions and contracts that FnExactStorePieces reaches (13 of 17). -/
import Derived.Test.YtdgglhfnlljmeaaQFnExactStorePiecesx11
namespace Go.Proofs.Ytdgglhfnlljmeaa.PFnExactStorePieces
open Go.RowKit Go.Proofs.YtdgglhfnlljmeaaW.PrintWords Go.Proofs.YtdgglhfnlljmeaaW.PrintLast Go.Proofs.YtdgglhfnlljmeaaW.PrintMore
attribute [local go_sem] max2_int min2_int max_two min_two max_three min_three max_four min_four   -- for this text's walks alone
set_option linter.unusedVariables false
set_option linter.unusedSimpArgs false
open Go.Proofs.YtdgglhfnlljmeaaX

/-! ### spec_IsWord: function 94 -/
def spec_IsWord.l0 : Nat → ByteArray → Int → Option (Bool)
 | 0, _, _ => none
 | k + 1, x0, x3 => if x3 < (x0.size : Int) then (if 0 ≤ x3 then (if (bt x0 x3) < 97 then (some false) else (if (bt x0 x3) > 122 then (some false) else (spec_IsWord.l0 k x0 (wrap64 (x3 + 1))))) else (none)) else ((spec_l01In.f (x0.size : Int) 1 16).bind fun t267 => (some t267))
def spec_IsWord.f (k : Nat) (a0 : ByteArray) : Option (Bool) := spec_IsWord.l0 k a0 0
theorem spec_IsWord.mono_l : ∀ k, (∀ y0 y1, LeO (spec_IsWord.l0 k y0 y1) (spec_IsWord.l0 (k + 1) y0 y1))
 | 0 => fun _ _ r h => by simp [spec_IsWord.l0] at h
 | k + 1 => by
  have ih0 := spec_IsWord.mono_l k
  ·intro y0 y1
   unfold spec_IsWord.l0
   repeat' first
   | (with_reducible exact ih0 _ _)
   | (with_reducible exact LeO.refl _)
   | (with_reducible exact LeO.none _)
   | (with_reducible refine LeO.ite ?_ ?_)
   | (with_reducible refine LeO.bind ?_ (fun _ => ?_))
   | exact ih0 _ _
   | exact LeO.none _
   | refine LeO.ite ?_ ?_
   | refine LeO.bind ?_ (fun _ => ?_)
theorem spec_IsWord.mono : ∀ a0 k, LeO (spec_IsWord.f k a0) (spec_IsWord.f (k + 1) a0) := by
 intro a0 k
 have ih0 := spec_IsWord.mono_l k
 unfold spec_IsWord.f
 repeat' first
   | (with_reducible exact ih0 _ _)
   | (with_reducible exact LeO.refl _)
   | (with_reducible exact LeO.none _)
   | (with_reducible refine LeO.ite ?_ ?_)
   | (with_reducible refine LeO.bind ?_ (fun _ => ?_))
   | exact ih0 _ _
   | exact LeO.none _
   | refine LeO.ite ?_ ?_
   | refine LeO.bind ?_ (fun _ => ?_)
set_option maxHeartbeats 8000000 in
set_option maxRecDepth 100000 in
theorem spec_IsWord.calls (k : Nat) (a0 : ByteArray) (r : Bool) (w : World) (h : spec_IsWord.f k a0 = some r) :
  Calls Try.prog 94 #[.string a0] w fun e w' => e = .returned (.bool r) ∧ Drawn0 w w' := by
 have H : (spec_IsWord.l0 k a0 0) = some r := h
 clear h
 have H' := jA H
 clear H
 go_enter Try.func94, Try.ntmps94
 go_wp2
 go_loopg [3] k (fun kq v3 w' => ∃ (x3_1 : Int), v3 = .int .i64 x3_1 ∧ Aside0 (spec_IsWord.l0 kq a0 x3_1 = some r) ∧ Aside0 (kq ≤ k) ∧ Drawn0 w w')
 case atStart => exact ⟨(0), zz, H', ⟨Nat.le_refl _⟩, by repeat (first | exact Drawn0.refl _ | apply Drawn0.step)⟩
 case round =>
  clear H'
  obtain ⟨x3_1, rfl, HA, HK1, ⟨m1, rfl⟩⟩ := hrel
  cases gk with
  | zero => exact absurd HA.out (by simp [spec_IsWord.l0])
  | succ k1 =>
   have H := HA.out
   clear HA
   simp only [spec_IsWord.l0] at H
   by_cases c2 : x3_1 < (a0.size : Int)
   ·rw [if_pos c2] at H
    have c2b0 : decide (x3_1 < (a0.size : Int)) = true := jQ c2
    clear c2
    by_cases c3 : 0 ≤ x3_1
    ·rw [if_pos c3] at H
     have c3b0 : decide (0 ≤ x3_1) = true := jQ c3
     clear c3
     by_cases c5 : (bt a0 x3_1) < 97
     ·rw [if_pos c5] at H
      have c5b0 : decide ((bt a0 x3_1) < 97) = true := jQ c5
      clear c5
      obtain rfl := jM H
      have p4 : 0 ≤ (x3_1 : Int) := jE za
      have q4 : x3_1 < (a0.size : Int) := jE za
      have hx4 := bt_at a0 x3_1
      replace p4 := eq_true p4
      replace q4 := eq_true q4
      go_wp2
      go_ret
      exact ⟨by first | rfl | (simp; done) | (simp [*]; done), by repeat (first | exact Drawn0.refl _ | apply Drawn0.step)⟩
     ·rw [if_neg c5] at H
      have c5b0 : decide ((bt a0 x3_1) < 97) = false := jY c5
      clear c5
      by_cases c7 : (bt a0 x3_1) > 122
      ·rw [if_pos c7] at H
       have c7b0 : decide (122 < (bt a0 x3_1)) = true := jQ c7
       clear c7
       obtain rfl := jM H
       have p4 : 0 ≤ (x3_1 : Int) := jE za
       have q4 : x3_1 < (a0.size : Int) := jE za
       have hx4 := bt_at a0 x3_1
       replace p4 := eq_true p4
       replace q4 := eq_true q4
       have p6 : 0 ≤ (x3_1 : Int) := jE za
       have q6 : x3_1 < (a0.size : Int) := jE za
       have hx6 := bt_at a0 x3_1
       replace p6 := eq_true p6
       replace q6 := eq_true q6
       go_wp2
       go_ret
       exact ⟨by first | rfl | (simp; done) | (simp [*]; done), by repeat (first | exact Drawn0.refl _ | apply Drawn0.step)⟩
      ·rw [if_neg c7] at H
       have c7b0 : decide (122 < (bt a0 x3_1)) = false := jY c7
       clear c7
       have H' := jA H
       clear H
       have p4 : 0 ≤ (x3_1 : Int) := jE za
       have q4 : x3_1 < (a0.size : Int) := jE za
       have hx4 := bt_at a0 x3_1
       replace p4 := eq_true p4
       replace q4 := eq_true q4
       have p6 : 0 ≤ (x3_1 : Int) := jE za
       have q6 : x3_1 < (a0.size : Int) := jE za
       have hx6 := bt_at a0 x3_1
       replace p6 := eq_true p6
       replace q6 := eq_true q6
       go_wp2
       go_roundg k1
       case measure => have := HK1.out; omega
       case rel => exact ⟨(wrap64 (x3_1 + 1)), zz, H', ⟨by have := HK1.out; omega⟩, by repeat (first | exact Drawn0.refl _ | apply Drawn0.step)⟩
    ·rw [if_neg c3] at H
     exact absurd H (by simp)
   ·rw [if_neg c2] at H
    have c2b0 : decide (x3_1 < (a0.size : Int)) = false := jY c2
    clear c2
    replace H := jP.mp H
    obtain ⟨t267, A80, H⟩ := H
    replace H : (some t267) = some r := H
    have A8 := jA A80
    clear A80
    obtain rfl := jM H
    go_wp2_with (first | ((with_reducible refine jW (f := 58) rfl ?_); refine goesL_ (some 22) rfl rfl Try.func58 zr rfl #[.int .i64 (a0.size : Int), .int .i64 1, .int .i64 16] rfl zm ?_; (with_reducible refine (spec_l01In.calls (a0.size : Int) 1 16 t267 _ A8.out).mono ?_); rintro e w' ⟨rfl, ⟨nd, rfl⟩⟩; refine ⟨_, rfl, ?_⟩))
    go_ret
    exact ⟨by first | rfl | (simp; done) | (simp [*]; done), by repeat (first | exact Drawn0.refl _ | apply Drawn0.step)⟩

/-! ### spec_IsArticle: function 89 -/
def spec_IsArticle.f (k : Nat) (a0_0 : ByteArray) (a0_1 : Int) (a0_2 : Int) (a0_3 : Int) (a0_4 : Int) (a0_5 : Int) (a0_6 : Int) (a0_7 : Int) (a0_8 : Int) : Option (Bool) := (spec_IsWord.f k a0_0).bind fun t269 => (if t269 = true then ((spec_l01In.f a0_1 0 3).bind fun t270 => (if t270 = true then ((spec_l01In.f a0_2 20 300).bind fun t271 => (if t271 = true then ((spec_l01In.f a0_3 0 10000).bind fun t272 => (if t272 = true then ((spec_l01In.f a0_4 0 a0_3).bind fun t273 => (if t273 = true then ((spec_l01In.f a0_5 1 50).bind fun t274 => (if t274 = true then ((spec_l01In.f a0_6 0 10000).bind fun t275 => (if t275 = true then ((spec_l01In.f a0_7 1 100000).bind fun t276 => (if t276 = true then ((spec_l01In.f a0_8 0 3).bind fun t277 => (some t277)) else (some false))) else (some false))) else (some false))) else (some false))) else (some false))) else (some false))) else (some false))) else (some false))
theorem spec_IsArticle.mono : ∀ a0 a1 a2 a3 a4 a5 a6 a7 a8 k, LeO (spec_IsArticle.f k a0 a1 a2 a3 a4 a5 a6 a7 a8) (spec_IsArticle.f (k + 1) a0 a1 a2 a3 a4 a5 a6 a7 a8) := by
 intro a0 a1 a2 a3 a4 a5 a6 a7 a8 k
 unfold spec_IsArticle.f
 repeat' first
   | (with_reducible exact spec_IsWord.mono _ _)
   | (with_reducible exact LeO.refl _)
   | (with_reducible exact LeO.none _)
   | (with_reducible refine LeO.ite ?_ ?_)
   | (with_reducible refine LeO.bind ?_ (fun _ => ?_))
   | exact spec_IsWord.mono _ _
   | exact LeO.none _
   | refine LeO.ite ?_ ?_
   | refine LeO.bind ?_ (fun _ => ?_)
set_option maxHeartbeats 8000000 in
set_option maxRecDepth 100000 in
theorem spec_IsArticle.calls (k : Nat) (a0_0 : ByteArray) (a0_1 : Int) (a0_2 : Int) (a0_3 : Int) (a0_4 : Int) (a0_5 : Int) (a0_6 : Int) (a0_7 : Int) (a0_8 : Int) (r : Bool) (w : World) (h : spec_IsArticle.f k a0_0 a0_1 a0_2 a0_3 a0_4 a0_5 a0_6 a0_7 a0_8 = some r) :
  Calls Try.prog 89 #[.agg #[.string a0_0, .int .i64 a0_1, .int .i64 a0_2, .int .i64 a0_3, .int .i64 a0_4, .int .i64 a0_5, .int .i64 a0_6, .int .i64 a0_7, .int .i64 a0_8]] w fun e w' => e = .returned (.bool r) ∧ Below w.heap.size w w' := by
 have hu65 := Try.underlying65
 have HB := jA (Below.refl w.heap.size w)
 have H : ((spec_IsWord.f k a0_0).bind fun t269 => (if t269 = true then ((spec_l01In.f a0_1 0 3).bind fun t270 => (if t270 = true then ((spec_l01In.f a0_2 20 300).bind fun t271 => (if t271 = true then ((spec_l01In.f a0_3 0 10000).bind fun t272 => (if t272 = true then ((spec_l01In.f a0_4 0 a0_3).bind fun t273 => (if t273 = true then ((spec_l01In.f a0_5 1 50).bind fun t274 => (if t274 = true then ((spec_l01In.f a0_6 0 10000).bind fun t275 => (if t275 = true then ((spec_l01In.f a0_7 1 100000).bind fun t276 => (if t276 = true then ((spec_l01In.f a0_8 0 3).bind fun t277 => (some t277)) else (some false))) else (some false))) else (some false))) else (some false))) else (some false))) else (some false))) else (some false))) else (some false))) = some r := h
 clear h
 replace H := jP.mp H
 obtain ⟨t269, A20, H⟩ := H
 replace H : (if t269 = true then ((spec_l01In.f a0_1 0 3).bind fun t270 => (if t270 = true then ((spec_l01In.f a0_2 20 300).bind fun t271 => (if t271 = true then ((spec_l01In.f a0_3 0 10000).bind fun t272 => (if t272 = true then ((spec_l01In.f a0_4 0 a0_3).bind fun t273 => (if t273 = true then ((spec_l01In.f a0_5 1 50).bind fun t274 => (if t274 = true then ((spec_l01In.f a0_6 0 10000).bind fun t275 => (if t275 = true then ((spec_l01In.f a0_7 1 100000).bind fun t276 => (if t276 = true then ((spec_l01In.f a0_8 0 3).bind fun t277 => (some t277)) else (some false))) else (some false))) else (some false))) else (some false))) else (some false))) else (some false))) else (some false))) else (some false)) = some r := H
 have A2 := jA A20
 clear A20
 by_cases c3 : t269 = true
 ·subst c3
  have H1 : ((spec_l01In.f a0_1 0 3).bind fun t270 => (if t270 = true then ((spec_l01In.f a0_2 20 300).bind fun t271 => (if t271 = true then ((spec_l01In.f a0_3 0 10000).bind fun t272 => (if t272 = true then ((spec_l01In.f a0_4 0 a0_3).bind fun t273 => (if t273 = true then ((spec_l01In.f a0_5 1 50).bind fun t274 => (if t274 = true then ((spec_l01In.f a0_6 0 10000).bind fun t275 => (if t275 = true then ((spec_l01In.f a0_7 1 100000).bind fun t276 => (if t276 = true then ((spec_l01In.f a0_8 0 3).bind fun t277 => (some t277)) else (some false))) else (some false))) else (some false))) else (some false))) else (some false))) else (some false))) else (some false))) = some r := by rw [if_pos rfl] at H; exact H
  clear H
  have H := H1
  clear H1
  replace H := jP.mp H
  obtain ⟨t270, A40, H⟩ := H
  replace H : (if t270 = true then ((spec_l01In.f a0_2 20 300).bind fun t271 => (if t271 = true then ((spec_l01In.f a0_3 0 10000).bind fun t272 => (if t272 = true then ((spec_l01In.f a0_4 0 a0_3).bind fun t273 => (if t273 = true then ((spec_l01In.f a0_5 1 50).bind fun t274 => (if t274 = true then ((spec_l01In.f a0_6 0 10000).bind fun t275 => (if t275 = true then ((spec_l01In.f a0_7 1 100000).bind fun t276 => (if t276 = true then ((spec_l01In.f a0_8 0 3).bind fun t277 => (some t277)) else (some false))) else (some false))) else (some false))) else (some false))) else (some false))) else (some false))) else (some false)) = some r := H
  have A4 := jA A40
  clear A40
  by_cases c5 : t270 = true
  ·subst c5
   have H1 : ((spec_l01In.f a0_2 20 300).bind fun t271 => (if t271 = true then ((spec_l01In.f a0_3 0 10000).bind fun t272 => (if t272 = true then ((spec_l01In.f a0_4 0 a0_3).bind fun t273 => (if t273 = true then ((spec_l01In.f a0_5 1 50).bind fun t274 => (if t274 = true then ((spec_l01In.f a0_6 0 10000).bind fun t275 => (if t275 = true then ((spec_l01In.f a0_7 1 100000).bind fun t276 => (if t276 = true then ((spec_l01In.f a0_8 0 3).bind fun t277 => (some t277)) else (some false))) else (some false))) else (some false))) else (some false))) else (some false))) else (some false))) = some r := by rw [if_pos rfl] at H; exact H
   clear H
   have H := H1
   clear H1
   replace H := jP.mp H
   obtain ⟨t271, A60, H⟩ := H
   replace H : (if t271 = true then ((spec_l01In.f a0_3 0 10000).bind fun t272 => (if t272 = true then ((spec_l01In.f a0_4 0 a0_3).bind fun t273 => (if t273 = true then ((spec_l01In.f a0_5 1 50).bind fun t274 => (if t274 = true then ((spec_l01In.f a0_6 0 10000).bind fun t275 => (if t275 = true then ((spec_l01In.f a0_7 1 100000).bind fun t276 => (if t276 = true then ((spec_l01In.f a0_8 0 3).bind fun t277 => (some t277)) else (some false))) else (some false))) else (some false))) else (some false))) else (some false))) else (some false)) = some r := H
   have A6 := jA A60
   clear A60
   by_cases c7 : t271 = true
   ·subst c7
    have H1 : ((spec_l01In.f a0_3 0 10000).bind fun t272 => (if t272 = true then ((spec_l01In.f a0_4 0 a0_3).bind fun t273 => (if t273 = true then ((spec_l01In.f a0_5 1 50).bind fun t274 => (if t274 = true then ((spec_l01In.f a0_6 0 10000).bind fun t275 => (if t275 = true then ((spec_l01In.f a0_7 1 100000).bind fun t276 => (if t276 = true then ((spec_l01In.f a0_8 0 3).bind fun t277 => (some t277)) else (some false))) else (some false))) else (some false))) else (some false))) else (some false))) = some r := by rw [if_pos rfl] at H; exact H
    clear H
    have H := H1
    clear H1
    replace H := jP.mp H
    obtain ⟨t272, A80, H⟩ := H
    replace H : (if t272 = true then ((spec_l01In.f a0_4 0 a0_3).bind fun t273 => (if t273 = true then ((spec_l01In.f a0_5 1 50).bind fun t274 => (if t274 = true then ((spec_l01In.f a0_6 0 10000).bind fun t275 => (if t275 = true then ((spec_l01In.f a0_7 1 100000).bind fun t276 => (if t276 = true then ((spec_l01In.f a0_8 0 3).bind fun t277 => (some t277)) else (some false))) else (some false))) else (some false))) else (some false))) else (some false)) = some r := H
    have A8 := jA A80
    clear A80
    by_cases c9 : t272 = true
    ·subst c9
     have H1 : ((spec_l01In.f a0_4 0 a0_3).bind fun t273 => (if t273 = true then ((spec_l01In.f a0_5 1 50).bind fun t274 => (if t274 = true then ((spec_l01In.f a0_6 0 10000).bind fun t275 => (if t275 = true then ((spec_l01In.f a0_7 1 100000).bind fun t276 => (if t276 = true then ((spec_l01In.f a0_8 0 3).bind fun t277 => (some t277)) else (some false))) else (some false))) else (some false))) else (some false))) = some r := by rw [if_pos rfl] at H; exact H
     clear H
     have H := H1
     clear H1
     replace H := jP.mp H
     obtain ⟨t273, A100, H⟩ := H
     replace H : (if t273 = true then ((spec_l01In.f a0_5 1 50).bind fun t274 => (if t274 = true then ((spec_l01In.f a0_6 0 10000).bind fun t275 => (if t275 = true then ((spec_l01In.f a0_7 1 100000).bind fun t276 => (if t276 = true then ((spec_l01In.f a0_8 0 3).bind fun t277 => (some t277)) else (some false))) else (some false))) else (some false))) else (some false)) = some r := H
     have A10 := jA A100
     clear A100
     by_cases c11 : t273 = true
     ·subst c11
      have H1 : ((spec_l01In.f a0_5 1 50).bind fun t274 => (if t274 = true then ((spec_l01In.f a0_6 0 10000).bind fun t275 => (if t275 = true then ((spec_l01In.f a0_7 1 100000).bind fun t276 => (if t276 = true then ((spec_l01In.f a0_8 0 3).bind fun t277 => (some t277)) else (some false))) else (some false))) else (some false))) = some r := by rw [if_pos rfl] at H; exact H
      clear H
      have H := H1
      clear H1
      replace H := jP.mp H
      obtain ⟨t274, A120, H⟩ := H
      replace H : (if t274 = true then ((spec_l01In.f a0_6 0 10000).bind fun t275 => (if t275 = true then ((spec_l01In.f a0_7 1 100000).bind fun t276 => (if t276 = true then ((spec_l01In.f a0_8 0 3).bind fun t277 => (some t277)) else (some false))) else (some false))) else (some false)) = some r := H
      have A12 := jA A120
      clear A120
      by_cases c13 : t274 = true
      ·subst c13
       have H1 : ((spec_l01In.f a0_6 0 10000).bind fun t275 => (if t275 = true then ((spec_l01In.f a0_7 1 100000).bind fun t276 => (if t276 = true then ((spec_l01In.f a0_8 0 3).bind fun t277 => (some t277)) else (some false))) else (some false))) = some r := by rw [if_pos rfl] at H; exact H
       clear H
       have H := H1
       clear H1
       replace H := jP.mp H
       obtain ⟨t275, A140, H⟩ := H
       replace H : (if t275 = true then ((spec_l01In.f a0_7 1 100000).bind fun t276 => (if t276 = true then ((spec_l01In.f a0_8 0 3).bind fun t277 => (some t277)) else (some false))) else (some false)) = some r := H
       have A14 := jA A140
       clear A140
       by_cases c15 : t275 = true
       ·subst c15
        have H1 : ((spec_l01In.f a0_7 1 100000).bind fun t276 => (if t276 = true then ((spec_l01In.f a0_8 0 3).bind fun t277 => (some t277)) else (some false))) = some r := by rw [if_pos rfl] at H; exact H
        clear H
        have H := H1
        clear H1
        replace H := jP.mp H
        obtain ⟨t276, A160, H⟩ := H
        replace H : (if t276 = true then ((spec_l01In.f a0_8 0 3).bind fun t277 => (some t277)) else (some false)) = some r := H
        have A16 := jA A160
        clear A160
        by_cases c17 : t276 = true
        ·subst c17
         have H1 : ((spec_l01In.f a0_8 0 3).bind fun t277 => (some t277)) = some r := by rw [if_pos rfl] at H; exact H
         clear H
         have H := H1
         clear H1
         replace H := jP.mp H
         obtain ⟨t277, A180, H⟩ := H
         replace H : (some t277) = some r := H
         have A18 := jA A180
         clear A180
         obtain rfl := jM H
         go_enter Try.func89, Try.ntmps89
         go_wp2_with (first | ((with_reducible refine jV (N := 1) rfl ?_); refine jU ?hg (N := 1) ?hd (cs := #[.string a0_0, .int .i64 a0_1, .int .i64 a0_2, .int .i64 a0_3, .int .i64 a0_4, .int .i64 a0_5, .int .i64 a0_6, .int .i64 a0_7, .int .i64 a0_8]) (t := 65) ?hr ?_; (case hd => rfl); (case hg => rfl); (case hr => first | (go_simp; done) | (go_simp; rfl)); intro gb268 hg w19 hbox hb; have n0_ := jA (jJ (zb0 HB) hb); have n1_ := jA (hbox); have n2_ := jA ((by rw [hg]; exact (jF (zb0 HB)) : w.heap.size ≤ gb268)); have n3_ := jA ((by rw [hg]; exact (jF (zb0 HB)) : w.heap.size ≤ gb268)); clear HB; have HB := n0_; have BK268 := n1_; have GW268 := n2_; have GE268 := n3_; clear n0_ n1_ n2_ n3_; clear hb hbox hg; have hcz20_0 : w19.cell? ⟨gb268, 0, none⟩ = some (.string a0_0) := (jD BK268.out 0).trans rfl; have hcz20_1 : w19.cell? ⟨gb268, 1, none⟩ = some (.int .i64 a0_1) := (jD BK268.out 1).trans rfl; have hcz20_2 : w19.cell? ⟨gb268, 2, none⟩ = some (.int .i64 a0_2) := (jD BK268.out 2).trans rfl; have hcz20_3 : w19.cell? ⟨gb268, 3, none⟩ = some (.int .i64 a0_3) := (jD BK268.out 3).trans rfl; have hcz20_4 : w19.cell? ⟨gb268, 4, none⟩ = some (.int .i64 a0_4) := (jD BK268.out 4).trans rfl; have hcz20_5 : w19.cell? ⟨gb268, 5, none⟩ = some (.int .i64 a0_5) := (jD BK268.out 5).trans rfl; have hcz20_6 : w19.cell? ⟨gb268, 6, none⟩ = some (.int .i64 a0_6) := (jD BK268.out 6).trans rfl; have hcz20_7 : w19.cell? ⟨gb268, 7, none⟩ = some (.int .i64 a0_7) := (jD BK268.out 7).trans rfl; have hcz20_8 : w19.cell? ⟨gb268, 8, none⟩ = some (.int .i64 a0_8) := (jD BK268.out 8).trans rfl; have hfz20_0 := jC BK268.out 0; have hfz20_1 := jC BK268.out 1; have hfz20_2 := jC BK268.out 2; have hfz20_3 := jC BK268.out 3; have hfz20_4 := jC BK268.out 4; have hfz20_5 := jC BK268.out 5; have hfz20_6 := jC BK268.out 6; have hfz20_7 := jC BK268.out 7; have hfz20_8 := jC BK268.out 8) | ((with_reducible refine jW (f := 94) rfl ?_); refine goesL_ (some 5) rfl rfl Try.func94 zr rfl #[.string a0_0] rfl zm ?_; (with_reducible refine (spec_IsWord.calls k a0_0 true _ A2.out).mono ?_); rintro e w' ⟨rfl, ⟨nd, rfl⟩⟩; refine ⟨_, rfl, ?_⟩) | (go_at_call 58; (with_reducible refine (spec_l01In.calls a0_1 0 3 true _ A4.out).mono ?_); rintro e w' ⟨rfl, ⟨nd, rfl⟩⟩) | (go_at_call 58; (with_reducible refine (spec_l01In.calls a0_2 20 300 true _ A6.out).mono ?_); rintro e w' ⟨rfl, ⟨nd, rfl⟩⟩) | (go_at_call 58; (with_reducible refine (spec_l01In.calls a0_3 0 10000 true _ A8.out).mono ?_); rintro e w' ⟨rfl, ⟨nd, rfl⟩⟩) | (go_at_call 58; (with_reducible refine (spec_l01In.calls a0_4 0 a0_3 true _ A10.out).mono ?_); rintro e w' ⟨rfl, ⟨nd, rfl⟩⟩) | (go_at_call 58; (with_reducible refine (spec_l01In.calls a0_5 1 50 true _ A12.out).mono ?_); rintro e w' ⟨rfl, ⟨nd, rfl⟩⟩) | (go_at_call 58; (with_reducible refine (spec_l01In.calls a0_6 0 10000 true _ A14.out).mono ?_); rintro e w' ⟨rfl, ⟨nd, rfl⟩⟩) | (go_at_call 58; (with_reducible refine (spec_l01In.calls a0_7 1 100000 true _ A16.out).mono ?_); rintro e w' ⟨rfl, ⟨nd, rfl⟩⟩) | (go_at_call 58; (with_reducible refine (spec_l01In.calls a0_8 0 3 t277 _ A18.out).mono ?_); rintro e w' ⟨rfl, ⟨nd, rfl⟩⟩))
         go_ret
         exact ⟨by first | rfl | (simp [errW_none, errW_some] <;> rfl) | (simp [*, errW_none, errW_some] <;> rfl), zb1 HB GE268⟩
        ·replace c17 := Bool.eq_false_iff.mpr c17
         subst c17
         have H1 : (some false) = some r := by rw [if_neg (show ¬ (false = true) by decide)] at H; exact H
         clear H
         have H := H1
         clear H1
         obtain rfl := jM H
         go_enter Try.func89, Try.ntmps89
         go_wp2_with (first | ((with_reducible refine jV (N := 1) rfl ?_); refine jU ?hg (N := 1) ?hd (cs := #[.string a0_0, .int .i64 a0_1, .int .i64 a0_2, .int .i64 a0_3, .int .i64 a0_4, .int .i64 a0_5, .int .i64 a0_6, .int .i64 a0_7, .int .i64 a0_8]) (t := 65) ?hr ?_; (case hd => rfl); (case hg => rfl); (case hr => first | (go_simp; done) | (go_simp; rfl)); intro gb268 hg w21 hbox hb; have n0_ := jA (jJ (zb0 HB) hb); have n1_ := jA (hbox); have n2_ := jA ((by rw [hg]; exact (jF (zb0 HB)) : w.heap.size ≤ gb268)); have n3_ := jA ((by rw [hg]; exact (jF (zb0 HB)) : w.heap.size ≤ gb268)); clear HB; have HB := n0_; have BK268 := n1_; have GW268 := n2_; have GE268 := n3_; clear n0_ n1_ n2_ n3_; clear hb hbox hg; have hcz22_0 : w21.cell? ⟨gb268, 0, none⟩ = some (.string a0_0) := (jD BK268.out 0).trans rfl; have hcz22_1 : w21.cell? ⟨gb268, 1, none⟩ = some (.int .i64 a0_1) := (jD BK268.out 1).trans rfl; have hcz22_2 : w21.cell? ⟨gb268, 2, none⟩ = some (.int .i64 a0_2) := (jD BK268.out 2).trans rfl; have hcz22_3 : w21.cell? ⟨gb268, 3, none⟩ = some (.int .i64 a0_3) := (jD BK268.out 3).trans rfl; have hcz22_4 : w21.cell? ⟨gb268, 4, none⟩ = some (.int .i64 a0_4) := (jD BK268.out 4).trans rfl; have hcz22_5 : w21.cell? ⟨gb268, 5, none⟩ = some (.int .i64 a0_5) := (jD BK268.out 5).trans rfl; have hcz22_6 : w21.cell? ⟨gb268, 6, none⟩ = some (.int .i64 a0_6) := (jD BK268.out 6).trans rfl; have hcz22_7 : w21.cell? ⟨gb268, 7, none⟩ = some (.int .i64 a0_7) := (jD BK268.out 7).trans rfl; have hcz22_8 : w21.cell? ⟨gb268, 8, none⟩ = some (.int .i64 a0_8) := (jD BK268.out 8).trans rfl; have hfz22_0 := jC BK268.out 0; have hfz22_1 := jC BK268.out 1; have hfz22_2 := jC BK268.out 2; have hfz22_3 := jC BK268.out 3; have hfz22_4 := jC BK268.out 4; have hfz22_5 := jC BK268.out 5; have hfz22_6 := jC BK268.out 6; have hfz22_7 := jC BK268.out 7; have hfz22_8 := jC BK268.out 8) | ((with_reducible refine jW (f := 94) rfl ?_); refine goesL_ (some 5) rfl rfl Try.func94 zr rfl #[.string a0_0] rfl zm ?_; (with_reducible refine (spec_IsWord.calls k a0_0 true _ A2.out).mono ?_); rintro e w' ⟨rfl, ⟨nd, rfl⟩⟩; refine ⟨_, rfl, ?_⟩) | (go_at_call 58; (with_reducible refine (spec_l01In.calls a0_1 0 3 true _ A4.out).mono ?_); rintro e w' ⟨rfl, ⟨nd, rfl⟩⟩) | (go_at_call 58; (with_reducible refine (spec_l01In.calls a0_2 20 300 true _ A6.out).mono ?_); rintro e w' ⟨rfl, ⟨nd, rfl⟩⟩) | (go_at_call 58; (with_reducible refine (spec_l01In.calls a0_3 0 10000 true _ A8.out).mono ?_); rintro e w' ⟨rfl, ⟨nd, rfl⟩⟩) | (go_at_call 58; (with_reducible refine (spec_l01In.calls a0_4 0 a0_3 true _ A10.out).mono ?_); rintro e w' ⟨rfl, ⟨nd, rfl⟩⟩) | (go_at_call 58; (with_reducible refine (spec_l01In.calls a0_5 1 50 true _ A12.out).mono ?_); rintro e w' ⟨rfl, ⟨nd, rfl⟩⟩) | (go_at_call 58; (with_reducible refine (spec_l01In.calls a0_6 0 10000 true _ A14.out).mono ?_); rintro e w' ⟨rfl, ⟨nd, rfl⟩⟩) | (go_at_call 58; (with_reducible refine (spec_l01In.calls a0_7 1 100000 false _ A16.out).mono ?_); rintro e w' ⟨rfl, ⟨nd, rfl⟩⟩))
         go_ret
         exact ⟨by first | rfl | (simp [errW_none, errW_some] <;> rfl) | (simp [*, errW_none, errW_some] <;> rfl), zb1 HB GE268⟩
       ·replace c15 := Bool.eq_false_iff.mpr c15
        subst c15
        have H1 : (some false) = some r := by rw [if_neg (show ¬ (false = true) by decide)] at H; exact H
        clear H
        have H := H1
        clear H1
        obtain rfl := jM H
        go_enter Try.func89, Try.ntmps89
        go_wp2_with (first | ((with_reducible refine jV (N := 1) rfl ?_); refine jU ?hg (N := 1) ?hd (cs := #[.string a0_0, .int .i64 a0_1, .int .i64 a0_2, .int .i64 a0_3, .int .i64 a0_4, .int .i64 a0_5, .int .i64 a0_6, .int .i64 a0_7, .int .i64 a0_8]) (t := 65) ?hr ?_; (case hd => rfl); (case hg => rfl); (case hr => first | (go_simp; done) | (go_simp; rfl)); intro gb268 hg w23 hbox hb; have n0_ := jA (jJ (zb0 HB) hb); have n1_ := jA (hbox); have n2_ := jA ((by rw [hg]; exact (jF (zb0 HB)) : w.heap.size ≤ gb268)); have n3_ := jA ((by rw [hg]; exact (jF (zb0 HB)) : w.heap.size ≤ gb268)); clear HB; have HB := n0_; have BK268 := n1_; have GW268 := n2_; have GE268 := n3_; clear n0_ n1_ n2_ n3_; clear hb hbox hg; have hcz24_0 : w23.cell? ⟨gb268, 0, none⟩ = some (.string a0_0) := (jD BK268.out 0).trans rfl; have hcz24_1 : w23.cell? ⟨gb268, 1, none⟩ = some (.int .i64 a0_1) := (jD BK268.out 1).trans rfl; have hcz24_2 : w23.cell? ⟨gb268, 2, none⟩ = some (.int .i64 a0_2) := (jD BK268.out 2).trans rfl; have hcz24_3 : w23.cell? ⟨gb268, 3, none⟩ = some (.int .i64 a0_3) := (jD BK268.out 3).trans rfl; have hcz24_4 : w23.cell? ⟨gb268, 4, none⟩ = some (.int .i64 a0_4) := (jD BK268.out 4).trans rfl; have hcz24_5 : w23.cell? ⟨gb268, 5, none⟩ = some (.int .i64 a0_5) := (jD BK268.out 5).trans rfl; have hcz24_6 : w23.cell? ⟨gb268, 6, none⟩ = some (.int .i64 a0_6) := (jD BK268.out 6).trans rfl; have hcz24_7 : w23.cell? ⟨gb268, 7, none⟩ = some (.int .i64 a0_7) := (jD BK268.out 7).trans rfl; have hcz24_8 : w23.cell? ⟨gb268, 8, none⟩ = some (.int .i64 a0_8) := (jD BK268.out 8).trans rfl; have hfz24_0 := jC BK268.out 0; have hfz24_1 := jC BK268.out 1; have hfz24_2 := jC BK268.out 2; have hfz24_3 := jC BK268.out 3; have hfz24_4 := jC BK268.out 4; have hfz24_5 := jC BK268.out 5; have hfz24_6 := jC BK268.out 6; have hfz24_7 := jC BK268.out 7; have hfz24_8 := jC BK268.out 8) | ((with_reducible refine jW (f := 94) rfl ?_); refine goesL_ (some 5) rfl rfl Try.func94 zr rfl #[.string a0_0] rfl zm ?_; (with_reducible refine (spec_IsWord.calls k a0_0 true _ A2.out).mono ?_); rintro e w' ⟨rfl, ⟨nd, rfl⟩⟩; refine ⟨_, rfl, ?_⟩) | (go_at_call 58; (with_reducible refine (spec_l01In.calls a0_1 0 3 true _ A4.out).mono ?_); rintro e w' ⟨rfl, ⟨nd, rfl⟩⟩) | (go_at_call 58; (with_reducible refine (spec_l01In.calls a0_2 20 300 true _ A6.out).mono ?_); rintro e w' ⟨rfl, ⟨nd, rfl⟩⟩) | (go_at_call 58; (with_reducible refine (spec_l01In.calls a0_3 0 10000 true _ A8.out).mono ?_); rintro e w' ⟨rfl, ⟨nd, rfl⟩⟩) | (go_at_call 58; (with_reducible refine (spec_l01In.calls a0_4 0 a0_3 true _ A10.out).mono ?_); rintro e w' ⟨rfl, ⟨nd, rfl⟩⟩) | (go_at_call 58; (with_reducible refine (spec_l01In.calls a0_5 1 50 true _ A12.out).mono ?_); rintro e w' ⟨rfl, ⟨nd, rfl⟩⟩) | (go_at_call 58; (with_reducible refine (spec_l01In.calls a0_6 0 10000 false _ A14.out).mono ?_); rintro e w' ⟨rfl, ⟨nd, rfl⟩⟩))
        go_ret
        exact ⟨by first | rfl | (simp [errW_none, errW_some] <;> rfl) | (simp [*, errW_none, errW_some] <;> rfl), zb1 HB GE268⟩
      ·replace c13 := Bool.eq_false_iff.mpr c13
       subst c13
       have H1 : (some false) = some r := by rw [if_neg (show ¬ (false = true) by decide)] at H; exact H
       clear H
       have H := H1
       clear H1
       obtain rfl := jM H
       go_enter Try.func89, Try.ntmps89
       go_wp2_with (first | ((with_reducible refine jV (N := 1) rfl ?_); refine jU ?hg (N := 1) ?hd (cs := #[.string a0_0, .int .i64 a0_1, .int .i64 a0_2, .int .i64 a0_3, .int .i64 a0_4, .int .i64 a0_5, .int .i64 a0_6, .int .i64 a0_7, .int .i64 a0_8]) (t := 65) ?hr ?_; (case hd => rfl); (case hg => rfl); (case hr => first | (go_simp; done) | (go_simp; rfl)); intro gb268 hg w25 hbox hb; have n0_ := jA (jJ (zb0 HB) hb); have n1_ := jA (hbox); have n2_ := jA ((by rw [hg]; exact (jF (zb0 HB)) : w.heap.size ≤ gb268)); have n3_ := jA ((by rw [hg]; exact (jF (zb0 HB)) : w.heap.size ≤ gb268)); clear HB; have HB := n0_; have BK268 := n1_; have GW268 := n2_; have GE268 := n3_; clear n0_ n1_ n2_ n3_; clear hb hbox hg; have hcz26_0 : w25.cell? ⟨gb268, 0, none⟩ = some (.string a0_0) := (jD BK268.out 0).trans rfl; have hcz26_1 : w25.cell? ⟨gb268, 1, none⟩ = some (.int .i64 a0_1) := (jD BK268.out 1).trans rfl; have hcz26_2 : w25.cell? ⟨gb268, 2, none⟩ = some (.int .i64 a0_2) := (jD BK268.out 2).trans rfl; have hcz26_3 : w25.cell? ⟨gb268, 3, none⟩ = some (.int .i64 a0_3) := (jD BK268.out 3).trans rfl; have hcz26_4 : w25.cell? ⟨gb268, 4, none⟩ = some (.int .i64 a0_4) := (jD BK268.out 4).trans rfl; have hcz26_5 : w25.cell? ⟨gb268, 5, none⟩ = some (.int .i64 a0_5) := (jD BK268.out 5).trans rfl; have hcz26_6 : w25.cell? ⟨gb268, 6, none⟩ = some (.int .i64 a0_6) := (jD BK268.out 6).trans rfl; have hcz26_7 : w25.cell? ⟨gb268, 7, none⟩ = some (.int .i64 a0_7) := (jD BK268.out 7).trans rfl; have hcz26_8 : w25.cell? ⟨gb268, 8, none⟩ = some (.int .i64 a0_8) := (jD BK268.out 8).trans rfl; have hfz26_0 := jC BK268.out 0; have hfz26_1 := jC BK268.out 1; have hfz26_2 := jC BK268.out 2; have hfz26_3 := jC BK268.out 3; have hfz26_4 := jC BK268.out 4; have hfz26_5 := jC BK268.out 5; have hfz26_6 := jC BK268.out 6; have hfz26_7 := jC BK268.out 7; have hfz26_8 := jC BK268.out 8) | ((with_reducible refine jW (f := 94) rfl ?_); refine goesL_ (some 5) rfl rfl Try.func94 zr rfl #[.string a0_0] rfl zm ?_; (with_reducible refine (spec_IsWord.calls k a0_0 true _ A2.out).mono ?_); rintro e w' ⟨rfl, ⟨nd, rfl⟩⟩; refine ⟨_, rfl, ?_⟩) | (go_at_call 58; (with_reducible refine (spec_l01In.calls a0_1 0 3 true _ A4.out).mono ?_); rintro e w' ⟨rfl, ⟨nd, rfl⟩⟩) | (go_at_call 58; (with_reducible refine (spec_l01In.calls a0_2 20 300 true _ A6.out).mono ?_); rintro e w' ⟨rfl, ⟨nd, rfl⟩⟩) | (go_at_call 58; (with_reducible refine (spec_l01In.calls a0_3 0 10000 true _ A8.out).mono ?_); rintro e w' ⟨rfl, ⟨nd, rfl⟩⟩) | (go_at_call 58; (with_reducible refine (spec_l01In.calls a0_4 0 a0_3 true _ A10.out).mono ?_); rintro e w' ⟨rfl, ⟨nd, rfl⟩⟩) | (go_at_call 58; (with_reducible refine (spec_l01In.calls a0_5 1 50 false _ A12.out).mono ?_); rintro e w' ⟨rfl, ⟨nd, rfl⟩⟩))
       go_ret
       exact ⟨by first | rfl | (simp [errW_none, errW_some] <;> rfl) | (simp [*, errW_none, errW_some] <;> rfl), zb1 HB GE268⟩
     ·replace c11 := Bool.eq_false_iff.mpr c11
      subst c11
      have H1 : (some false) = some r := by rw [if_neg (show ¬ (false = true) by decide)] at H; exact H
      clear H
      have H := H1
      clear H1
      obtain rfl := jM H
      go_enter Try.func89, Try.ntmps89
      go_wp2_with (first | ((with_reducible refine jV (N := 1) rfl ?_); refine jU ?hg (N := 1) ?hd (cs := #[.string a0_0, .int .i64 a0_1, .int .i64 a0_2, .int .i64 a0_3, .int .i64 a0_4, .int .i64 a0_5, .int .i64 a0_6, .int .i64 a0_7, .int .i64 a0_8]) (t := 65) ?hr ?_; (case hd => rfl); (case hg => rfl); (case hr => first | (go_simp; done) | (go_simp; rfl)); intro gb268 hg w27 hbox hb; have n0_ := jA (jJ (zb0 HB) hb); have n1_ := jA (hbox); have n2_ := jA ((by rw [hg]; exact (jF (zb0 HB)) : w.heap.size ≤ gb268)); have n3_ := jA ((by rw [hg]; exact (jF (zb0 HB)) : w.heap.size ≤ gb268)); clear HB; have HB := n0_; have BK268 := n1_; have GW268 := n2_; have GE268 := n3_; clear n0_ n1_ n2_ n3_; clear hb hbox hg; have hcz28_0 : w27.cell? ⟨gb268, 0, none⟩ = some (.string a0_0) := (jD BK268.out 0).trans rfl; have hcz28_1 : w27.cell? ⟨gb268, 1, none⟩ = some (.int .i64 a0_1) := (jD BK268.out 1).trans rfl; have hcz28_2 : w27.cell? ⟨gb268, 2, none⟩ = some (.int .i64 a0_2) := (jD BK268.out 2).trans rfl; have hcz28_3 : w27.cell? ⟨gb268, 3, none⟩ = some (.int .i64 a0_3) := (jD BK268.out 3).trans rfl; have hcz28_4 : w27.cell? ⟨gb268, 4, none⟩ = some (.int .i64 a0_4) := (jD BK268.out 4).trans rfl; have hcz28_5 : w27.cell? ⟨gb268, 5, none⟩ = some (.int .i64 a0_5) := (jD BK268.out 5).trans rfl; have hcz28_6 : w27.cell? ⟨gb268, 6, none⟩ = some (.int .i64 a0_6) := (jD BK268.out 6).trans rfl; have hcz28_7 : w27.cell? ⟨gb268, 7, none⟩ = some (.int .i64 a0_7) := (jD BK268.out 7).trans rfl; have hcz28_8 : w27.cell? ⟨gb268, 8, none⟩ = some (.int .i64 a0_8) := (jD BK268.out 8).trans rfl; have hfz28_0 := jC BK268.out 0; have hfz28_1 := jC BK268.out 1; have hfz28_2 := jC BK268.out 2; have hfz28_3 := jC BK268.out 3; have hfz28_4 := jC BK268.out 4; have hfz28_5 := jC BK268.out 5; have hfz28_6 := jC BK268.out 6; have hfz28_7 := jC BK268.out 7; have hfz28_8 := jC BK268.out 8) | ((with_reducible refine jW (f := 94) rfl ?_); refine goesL_ (some 5) rfl rfl Try.func94 zr rfl #[.string a0_0] rfl zm ?_; (with_reducible refine (spec_IsWord.calls k a0_0 true _ A2.out).mono ?_); rintro e w' ⟨rfl, ⟨nd, rfl⟩⟩; refine ⟨_, rfl, ?_⟩) | (go_at_call 58; (with_reducible refine (spec_l01In.calls a0_1 0 3 true _ A4.out).mono ?_); rintro e w' ⟨rfl, ⟨nd, rfl⟩⟩) | (go_at_call 58; (with_reducible refine (spec_l01In.calls a0_2 20 300 true _ A6.out).mono ?_); rintro e w' ⟨rfl, ⟨nd, rfl⟩⟩) | (go_at_call 58; (with_reducible refine (spec_l01In.calls a0_3 0 10000 true _ A8.out).mono ?_); rintro e w' ⟨rfl, ⟨nd, rfl⟩⟩) | (go_at_call 58; (with_reducible refine (spec_l01In.calls a0_4 0 a0_3 false _ A10.out).mono ?_); rintro e w' ⟨rfl, ⟨nd, rfl⟩⟩))
      go_ret
      exact ⟨by first | rfl | (simp [errW_none, errW_some] <;> rfl) | (simp [*, errW_none, errW_some] <;> rfl), zb1 HB GE268⟩
    ·replace c9 := Bool.eq_false_iff.mpr c9
     subst c9
     have H1 : (some false) = some r := by rw [if_neg (show ¬ (false = true) by decide)] at H; exact H
     clear H
     have H := H1
     clear H1
     obtain rfl := jM H
     go_enter Try.func89, Try.ntmps89
     go_wp2_with (first | ((with_reducible refine jV (N := 1) rfl ?_); refine jU ?hg (N := 1) ?hd (cs := #[.string a0_0, .int .i64 a0_1, .int .i64 a0_2, .int .i64 a0_3, .int .i64 a0_4, .int .i64 a0_5, .int .i64 a0_6, .int .i64 a0_7, .int .i64 a0_8]) (t := 65) ?hr ?_; (case hd => rfl); (case hg => rfl); (case hr => first | (go_simp; done) | (go_simp; rfl)); intro gb268 hg w29 hbox hb; have n0_ := jA (jJ (zb0 HB) hb); have n1_ := jA (hbox); have n2_ := jA ((by rw [hg]; exact (jF (zb0 HB)) : w.heap.size ≤ gb268)); have n3_ := jA ((by rw [hg]; exact (jF (zb0 HB)) : w.heap.size ≤ gb268)); clear HB; have HB := n0_; have BK268 := n1_; have GW268 := n2_; have GE268 := n3_; clear n0_ n1_ n2_ n3_; clear hb hbox hg; have hcz30_0 : w29.cell? ⟨gb268, 0, none⟩ = some (.string a0_0) := (jD BK268.out 0).trans rfl; have hcz30_1 : w29.cell? ⟨gb268, 1, none⟩ = some (.int .i64 a0_1) := (jD BK268.out 1).trans rfl; have hcz30_2 : w29.cell? ⟨gb268, 2, none⟩ = some (.int .i64 a0_2) := (jD BK268.out 2).trans rfl; have hcz30_3 : w29.cell? ⟨gb268, 3, none⟩ = some (.int .i64 a0_3) := (jD BK268.out 3).trans rfl; have hcz30_4 : w29.cell? ⟨gb268, 4, none⟩ = some (.int .i64 a0_4) := (jD BK268.out 4).trans rfl; have hcz30_5 : w29.cell? ⟨gb268, 5, none⟩ = some (.int .i64 a0_5) := (jD BK268.out 5).trans rfl; have hcz30_6 : w29.cell? ⟨gb268, 6, none⟩ = some (.int .i64 a0_6) := (jD BK268.out 6).trans rfl; have hcz30_7 : w29.cell? ⟨gb268, 7, none⟩ = some (.int .i64 a0_7) := (jD BK268.out 7).trans rfl; have hcz30_8 : w29.cell? ⟨gb268, 8, none⟩ = some (.int .i64 a0_8) := (jD BK268.out 8).trans rfl; have hfz30_0 := jC BK268.out 0; have hfz30_1 := jC BK268.out 1; have hfz30_2 := jC BK268.out 2; have hfz30_3 := jC BK268.out 3; have hfz30_4 := jC BK268.out 4; have hfz30_5 := jC BK268.out 5; have hfz30_6 := jC BK268.out 6; have hfz30_7 := jC BK268.out 7; have hfz30_8 := jC BK268.out 8) | ((with_reducible refine jW (f := 94) rfl ?_); refine goesL_ (some 5) rfl rfl Try.func94 zr rfl #[.string a0_0] rfl zm ?_; (with_reducible refine (spec_IsWord.calls k a0_0 true _ A2.out).mono ?_); rintro e w' ⟨rfl, ⟨nd, rfl⟩⟩; refine ⟨_, rfl, ?_⟩) | (go_at_call 58; (with_reducible refine (spec_l01In.calls a0_1 0 3 true _ A4.out).mono ?_); rintro e w' ⟨rfl, ⟨nd, rfl⟩⟩) | (go_at_call 58; (with_reducible refine (spec_l01In.calls a0_2 20 300 true _ A6.out).mono ?_); rintro e w' ⟨rfl, ⟨nd, rfl⟩⟩) | (go_at_call 58; (with_reducible refine (spec_l01In.calls a0_3 0 10000 false _ A8.out).mono ?_); rintro e w' ⟨rfl, ⟨nd, rfl⟩⟩))
     go_ret
     exact ⟨by first | rfl | (simp [errW_none, errW_some] <;> rfl) | (simp [*, errW_none, errW_some] <;> rfl), zb1 HB GE268⟩
   ·replace c7 := Bool.eq_false_iff.mpr c7
    subst c7
    have H1 : (some false) = some r := by rw [if_neg (show ¬ (false = true) by decide)] at H; exact H
    clear H
    have H := H1
    clear H1
    obtain rfl := jM H
    go_enter Try.func89, Try.ntmps89
    go_wp2_with (first | ((with_reducible refine jV (N := 1) rfl ?_); refine jU ?hg (N := 1) ?hd (cs := #[.string a0_0, .int .i64 a0_1, .int .i64 a0_2, .int .i64 a0_3, .int .i64 a0_4, .int .i64 a0_5, .int .i64 a0_6, .int .i64 a0_7, .int .i64 a0_8]) (t := 65) ?hr ?_; (case hd => rfl); (case hg => rfl); (case hr => first | (go_simp; done) | (go_simp; rfl)); intro gb268 hg w31 hbox hb; have n0_ := jA (jJ (zb0 HB) hb); have n1_ := jA (hbox); have n2_ := jA ((by rw [hg]; exact (jF (zb0 HB)) : w.heap.size ≤ gb268)); have n3_ := jA ((by rw [hg]; exact (jF (zb0 HB)) : w.heap.size ≤ gb268)); clear HB; have HB := n0_; have BK268 := n1_; have GW268 := n2_; have GE268 := n3_; clear n0_ n1_ n2_ n3_; clear hb hbox hg; have hcz32_0 : w31.cell? ⟨gb268, 0, none⟩ = some (.string a0_0) := (jD BK268.out 0).trans rfl; have hcz32_1 : w31.cell? ⟨gb268, 1, none⟩ = some (.int .i64 a0_1) := (jD BK268.out 1).trans rfl; have hcz32_2 : w31.cell? ⟨gb268, 2, none⟩ = some (.int .i64 a0_2) := (jD BK268.out 2).trans rfl; have hcz32_3 : w31.cell? ⟨gb268, 3, none⟩ = some (.int .i64 a0_3) := (jD BK268.out 3).trans rfl; have hcz32_4 : w31.cell? ⟨gb268, 4, none⟩ = some (.int .i64 a0_4) := (jD BK268.out 4).trans rfl; have hcz32_5 : w31.cell? ⟨gb268, 5, none⟩ = some (.int .i64 a0_5) := (jD BK268.out 5).trans rfl; have hcz32_6 : w31.cell? ⟨gb268, 6, none⟩ = some (.int .i64 a0_6) := (jD BK268.out 6).trans rfl; have hcz32_7 : w31.cell? ⟨gb268, 7, none⟩ = some (.int .i64 a0_7) := (jD BK268.out 7).trans rfl; have hcz32_8 : w31.cell? ⟨gb268, 8, none⟩ = some (.int .i64 a0_8) := (jD BK268.out 8).trans rfl; have hfz32_0 := jC BK268.out 0; have hfz32_1 := jC BK268.out 1; have hfz32_2 := jC BK268.out 2; have hfz32_3 := jC BK268.out 3; have hfz32_4 := jC BK268.out 4; have hfz32_5 := jC BK268.out 5; have hfz32_6 := jC BK268.out 6; have hfz32_7 := jC BK268.out 7; have hfz32_8 := jC BK268.out 8) | ((with_reducible refine jW (f := 94) rfl ?_); refine goesL_ (some 5) rfl rfl Try.func94 zr rfl #[.string a0_0] rfl zm ?_; (with_reducible refine (spec_IsWord.calls k a0_0 true _ A2.out).mono ?_); rintro e w' ⟨rfl, ⟨nd, rfl⟩⟩; refine ⟨_, rfl, ?_⟩) | (go_at_call 58; (with_reducible refine (spec_l01In.calls a0_1 0 3 true _ A4.out).mono ?_); rintro e w' ⟨rfl, ⟨nd, rfl⟩⟩) | (go_at_call 58; (with_reducible refine (spec_l01In.calls a0_2 20 300 false _ A6.out).mono ?_); rintro e w' ⟨rfl, ⟨nd, rfl⟩⟩))
    go_ret
    exact ⟨by first | rfl | (simp [errW_none, errW_some] <;> rfl) | (simp [*, errW_none, errW_some] <;> rfl), zb1 HB GE268⟩
  ·replace c5 := Bool.eq_false_iff.mpr c5
   subst c5
   have H1 : (some false) = some r := by rw [if_neg (show ¬ (false = true) by decide)] at H; exact H
   clear H
   have H := H1
   clear H1
   obtain rfl := jM H
   go_enter Try.func89, Try.ntmps89
   go_wp2_with (first | ((with_reducible refine jV (N := 1) rfl ?_); refine jU ?hg (N := 1) ?hd (cs := #[.string a0_0, .int .i64 a0_1, .int .i64 a0_2, .int .i64 a0_3, .int .i64 a0_4, .int .i64 a0_5, .int .i64 a0_6, .int .i64 a0_7, .int .i64 a0_8]) (t := 65) ?hr ?_; (case hd => rfl); (case hg => rfl); (case hr => first | (go_simp; done) | (go_simp; rfl)); intro gb268 hg w33 hbox hb; have n0_ := jA (jJ (zb0 HB) hb); have n1_ := jA (hbox); have n2_ := jA ((by rw [hg]; exact (jF (zb0 HB)) : w.heap.size ≤ gb268)); have n3_ := jA ((by rw [hg]; exact (jF (zb0 HB)) : w.heap.size ≤ gb268)); clear HB; have HB := n0_; have BK268 := n1_; have GW268 := n2_; have GE268 := n3_; clear n0_ n1_ n2_ n3_; clear hb hbox hg; have hcz34_0 : w33.cell? ⟨gb268, 0, none⟩ = some (.string a0_0) := (jD BK268.out 0).trans rfl; have hcz34_1 : w33.cell? ⟨gb268, 1, none⟩ = some (.int .i64 a0_1) := (jD BK268.out 1).trans rfl; have hcz34_2 : w33.cell? ⟨gb268, 2, none⟩ = some (.int .i64 a0_2) := (jD BK268.out 2).trans rfl; have hcz34_3 : w33.cell? ⟨gb268, 3, none⟩ = some (.int .i64 a0_3) := (jD BK268.out 3).trans rfl; have hcz34_4 : w33.cell? ⟨gb268, 4, none⟩ = some (.int .i64 a0_4) := (jD BK268.out 4).trans rfl; have hcz34_5 : w33.cell? ⟨gb268, 5, none⟩ = some (.int .i64 a0_5) := (jD BK268.out 5).trans rfl; have hcz34_6 : w33.cell? ⟨gb268, 6, none⟩ = some (.int .i64 a0_6) := (jD BK268.out 6).trans rfl; have hcz34_7 : w33.cell? ⟨gb268, 7, none⟩ = some (.int .i64 a0_7) := (jD BK268.out 7).trans rfl; have hcz34_8 : w33.cell? ⟨gb268, 8, none⟩ = some (.int .i64 a0_8) := (jD BK268.out 8).trans rfl; have hfz34_0 := jC BK268.out 0; have hfz34_1 := jC BK268.out 1; have hfz34_2 := jC BK268.out 2; have hfz34_3 := jC BK268.out 3; have hfz34_4 := jC BK268.out 4; have hfz34_5 := jC BK268.out 5; have hfz34_6 := jC BK268.out 6; have hfz34_7 := jC BK268.out 7; have hfz34_8 := jC BK268.out 8) | ((with_reducible refine jW (f := 94) rfl ?_); refine goesL_ (some 5) rfl rfl Try.func94 zr rfl #[.string a0_0] rfl zm ?_; (with_reducible refine (spec_IsWord.calls k a0_0 true _ A2.out).mono ?_); rintro e w' ⟨rfl, ⟨nd, rfl⟩⟩; refine ⟨_, rfl, ?_⟩) | (go_at_call 58; (with_reducible refine (spec_l01In.calls a0_1 0 3 false _ A4.out).mono ?_); rintro e w' ⟨rfl, ⟨nd, rfl⟩⟩))
   go_ret
   exact ⟨by first | rfl | (simp [errW_none, errW_some] <;> rfl) | (simp [*, errW_none, errW_some] <;> rfl), zb1 HB GE268⟩
 ·replace c3 := Bool.eq_false_iff.mpr c3
  subst c3
  have H1 : (some false) = some r := by rw [if_neg (show ¬ (false = true) by decide)] at H; exact H
  clear H
  have H := H1
  clear H1
  obtain rfl := jM H
  go_enter Try.func89, Try.ntmps89
  go_wp2_with (first | ((with_reducible refine jV (N := 1) rfl ?_); refine jU ?hg (N := 1) ?hd (cs := #[.string a0_0, .int .i64 a0_1, .int .i64 a0_2, .int .i64 a0_3, .int .i64 a0_4, .int .i64 a0_5, .int .i64 a0_6, .int .i64 a0_7, .int .i64 a0_8]) (t := 65) ?hr ?_; (case hd => rfl); (case hg => rfl); (case hr => first | (go_simp; done) | (go_simp; rfl)); intro gb268 hg w35 hbox hb; have n0_ := jA (jJ (zb0 HB) hb); have n1_ := jA (hbox); have n2_ := jA ((by rw [hg]; exact (jF (zb0 HB)) : w.heap.size ≤ gb268)); have n3_ := jA ((by rw [hg]; exact (jF (zb0 HB)) : w.heap.size ≤ gb268)); clear HB; have HB := n0_; have BK268 := n1_; have GW268 := n2_; have GE268 := n3_; clear n0_ n1_ n2_ n3_; clear hb hbox hg; have hcz36_0 : w35.cell? ⟨gb268, 0, none⟩ = some (.string a0_0) := (jD BK268.out 0).trans rfl; have hcz36_1 : w35.cell? ⟨gb268, 1, none⟩ = some (.int .i64 a0_1) := (jD BK268.out 1).trans rfl; have hcz36_2 : w35.cell? ⟨gb268, 2, none⟩ = some (.int .i64 a0_2) := (jD BK268.out 2).trans rfl; have hcz36_3 : w35.cell? ⟨gb268, 3, none⟩ = some (.int .i64 a0_3) := (jD BK268.out 3).trans rfl; have hcz36_4 : w35.cell? ⟨gb268, 4, none⟩ = some (.int .i64 a0_4) := (jD BK268.out 4).trans rfl; have hcz36_5 : w35.cell? ⟨gb268, 5, none⟩ = some (.int .i64 a0_5) := (jD BK268.out 5).trans rfl; have hcz36_6 : w35.cell? ⟨gb268, 6, none⟩ = some (.int .i64 a0_6) := (jD BK268.out 6).trans rfl; have hcz36_7 : w35.cell? ⟨gb268, 7, none⟩ = some (.int .i64 a0_7) := (jD BK268.out 7).trans rfl; have hcz36_8 : w35.cell? ⟨gb268, 8, none⟩ = some (.int .i64 a0_8) := (jD BK268.out 8).trans rfl; have hfz36_0 := jC BK268.out 0; have hfz36_1 := jC BK268.out 1; have hfz36_2 := jC BK268.out 2; have hfz36_3 := jC BK268.out 3; have hfz36_4 := jC BK268.out 4; have hfz36_5 := jC BK268.out 5; have hfz36_6 := jC BK268.out 6; have hfz36_7 := jC BK268.out 7; have hfz36_8 := jC BK268.out 8) | ((with_reducible refine jW (f := 94) rfl ?_); refine goesL_ (some 5) rfl rfl Try.func94 zr rfl #[.string a0_0] rfl zm ?_; (with_reducible refine (spec_IsWord.calls k a0_0 false _ A2.out).mono ?_); rintro e w' ⟨rfl, ⟨nd, rfl⟩⟩; refine ⟨_, rfl, ?_⟩))
  go_ret
  exact ⟨by first | rfl | (simp [errW_none, errW_some] <;> rfl) | (simp [*, errW_none, errW_some] <;> rfl), zb1 HB GE268⟩

end Go.Proofs.Ytdgglhfnlljmeaa.PFnExactStorePieces
