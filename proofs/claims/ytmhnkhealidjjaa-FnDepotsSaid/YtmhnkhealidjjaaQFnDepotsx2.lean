/- Functions and contracts that FnDepots reaches (3 of 11). -/
import Derived.Test.YtmhnkhealidjjaaQFnDepotsx1
namespace Go.Proofs.Ytmhnkhealidjjaa.PFnDepots
open Go.RowKit Go.Proofs.YtmhnkhealidjjaaW.PrintWords Go.Proofs.YtmhnkhealidjjaaW.PrintLast Go.Proofs.YtmhnkhealidjjaaW.PrintMore
attribute [local go_sem] max2_int min2_int max_two min_two max_three min_three max_four min_four   -- for this text's walks alone
set_option linter.unusedVariables false
set_option linter.unusedSimpArgs false

/-! ### impl_MoveGrams: function 34 -/
def impl_MoveGrams.j0 : Nat → List (S51) → Int → Int → Int → Bool → Option ((List (S51)) × Int)
 | 0, _, _, _, _, _ => none
 | k + 1, x0, x1, x2, x3, x30 => if x30 = true then (some (([] : List (S51)), 2)) else ((some (([] : List (S51)) : List (S51))).bind fun y135 => (if y135.length + x0.length < 5864062014805 then ((some (y135 ++ x0 : List (S51))).bind fun y138 => (if 0 ≤ x1 then (if x1 < (y138.length : Int) then ((some (y138.set (x1 : Int).toNat (⟨(rd_T51 y138 x1).f0, (rd_T51 y138 x1).f1, wrap64 (((rd_T51 y138 x1).f2) - x3)⟩ : S51) : List (S51))).bind fun y142 => (if 0 ≤ x2 then (if x2 < (y138.length : Int) then ((some (y142.set (x2 : Int).toNat (⟨(rd_T51 y142 x2).f0, (rd_T51 y142 x2).f1, wrap64 (((rd_T51 y142 x2).f2) + x3)⟩ : S51) : List (S51))).bind fun y144 => (if x1 = x2 then (some (([] : List (S51)), 5)) else ((impl_AreDepots.f k y144).bind fun t145 => (if t145 = true then (some (y144, 0)) else (some (([] : List (S51)), 5)))))) else (none)) else (none))) else (none)) else (none))) else (none)))
def impl_MoveGrams.f (k : Nat) (l0 : List (S51)) (a1 : Int) (a2 : Int) (a3 : Int) : Option ((List (S51)) × Int) := (impl_AreDepots.f k l0).bind fun t131 => (if t131 = true then ((impl_isIndex.f a1 (l0.length : Int)).bind fun t132 => (if t132 = true then ((impl_isIndex.f a2 (l0.length : Int)).bind fun t133 => (if t133 = true then ((impl_areGrams.f a3).bind fun t134 => (impl_MoveGrams.j0 k l0 a1 a2 a3 (!t134))) else (impl_MoveGrams.j0 k l0 a1 a2 a3 true))) else (impl_MoveGrams.j0 k l0 a1 a2 a3 true))) else (some (([] : List (S51)), 1)))
theorem impl_MoveGrams.mono_l : ∀ k, (∀ y0 y1 y2 y3 y4, LeO (impl_MoveGrams.j0 k y0 y1 y2 y3 y4) (impl_MoveGrams.j0 (k + 1) y0 y1 y2 y3 y4))
 | 0 => fun _ _ _ _ _ r h => by simp [impl_MoveGrams.j0] at h
 | k + 1 => by
  have ih0 := impl_MoveGrams.mono_l k
  ·intro y0 y1 y2 y3 y4
   unfold impl_MoveGrams.j0
   repeat' first
   | (with_reducible exact ih0 _ _ _ _ _)
   | (with_reducible exact impl_AreDepots.mono _ _)
   | (with_reducible exact LeO.refl _)
   | (with_reducible exact LeO.none _)
   | (with_reducible refine LeO.ite ?_ ?_)
   | (with_reducible refine LeO.bind ?_ (fun _ => ?_))
   | exact ih0 _ _ _ _ _
   | exact impl_AreDepots.mono _ _
   | exact LeO.none _
   | refine LeO.ite ?_ ?_
   | refine LeO.bind ?_ (fun _ => ?_)
theorem impl_MoveGrams.mono : ∀ a0 a1 a2 a3 k, LeO (impl_MoveGrams.f k a0 a1 a2 a3) (impl_MoveGrams.f (k + 1) a0 a1 a2 a3) := by
 intro a0 a1 a2 a3 k
 have ih0 := impl_MoveGrams.mono_l k
 unfold impl_MoveGrams.f
 repeat' first
   | (with_reducible exact ih0 _ _ _ _ _)
   | (with_reducible exact impl_AreDepots.mono _ _)
   | (with_reducible exact LeO.refl _)
   | (with_reducible exact LeO.none _)
   | (with_reducible refine LeO.ite ?_ ?_)
   | (with_reducible refine LeO.bind ?_ (fun _ => ?_))
   | exact ih0 _ _ _ _ _
   | exact impl_AreDepots.mono _ _
   | exact LeO.none _
   | refine LeO.ite ?_ ?_
   | refine LeO.bind ?_ (fun _ => ?_)
set_option maxHeartbeats 8000000 in
set_option maxRecDepth 100000 in
theorem impl_MoveGrams.calls (k : Nat) (A0 : Option Addr) (c0 : Nat) (l0 : List (S51)) (a1 : Int) (a2 : Int) (a3 : Int) (r1 : List (S51)) (r2 : Int) (w : World) (hr0 : Kd.C k51 w A0 l0.length l0) (hc0 : l0.length ≤ c0) (h : impl_MoveGrams.f k l0 a1 a2 a3 = some (r1, r2)) :
  Calls Try.prog 34 #[.slice A0 l0.length c0, .int .i64 a1, .int .i64 a2, .int .i64 a3] w fun e w' => ∃ v0_ : Value, e = .returned (.tuple #[v0_, .int .i64 r2]) ∧ Kd.R k51 51 w' w.heap.size (fun _ => True) v0_ r1 ∧ Below w.heap.size w w' := by
 have HR0 := jA hr0
 have HC0 := jA hc0
 clear hr0 hc0
 have HB := jA (Below.refl w.heap.size w)
 have H : ((impl_AreDepots.f k l0).bind fun t131 => (if t131 = true then ((impl_isIndex.f a1 (l0.length : Int)).bind fun t132 => (if t132 = true then ((impl_isIndex.f a2 (l0.length : Int)).bind fun t133 => (if t133 = true then ((impl_areGrams.f a3).bind fun t134 => (impl_MoveGrams.j0 k l0 a1 a2 a3 (!t134))) else (impl_MoveGrams.j0 k l0 a1 a2 a3 true))) else (impl_MoveGrams.j0 k l0 a1 a2 a3 true))) else (some (([] : List (S51)), 1)))) = some (r1, r2) := h
 clear h
 replace H := jD.mp H
 obtain ⟨t131, A50, H⟩ := H
 replace H : (if t131 = true then ((impl_isIndex.f a1 (l0.length : Int)).bind fun t132 => (if t132 = true then ((impl_isIndex.f a2 (l0.length : Int)).bind fun t133 => (if t133 = true then ((impl_areGrams.f a3).bind fun t134 => (impl_MoveGrams.j0 k l0 a1 a2 a3 (!t134))) else (impl_MoveGrams.j0 k l0 a1 a2 a3 true))) else (impl_MoveGrams.j0 k l0 a1 a2 a3 true))) else (some (([] : List (S51)), 1))) = some (r1, r2) := H
 have A5 := jA A50
 clear A50
 by_cases c6 : t131 = true
 ·subst c6
  have H1 : ((impl_isIndex.f a1 (l0.length : Int)).bind fun t132 => (if t132 = true then ((impl_isIndex.f a2 (l0.length : Int)).bind fun t133 => (if t133 = true then ((impl_areGrams.f a3).bind fun t134 => (impl_MoveGrams.j0 k l0 a1 a2 a3 (!t134))) else (impl_MoveGrams.j0 k l0 a1 a2 a3 true))) else (impl_MoveGrams.j0 k l0 a1 a2 a3 true))) = some (r1, r2) := by rw [if_pos rfl] at H; exact H
  clear H
  have H := H1
  clear H1
  have HC7 := jA H
  clear H
  go_enter Try.func34, Try.ntmps34
  go_upto_region 3 with (first | ((with_reducible refine jH (f := 22) rfl ?_); refine goesL_ (some 12) rfl rfl Try.func22 zr rfl #[.slice A0 l0.length c0] rfl zm ?_; (with_reducible refine (impl_AreDepots.calls k _ _ l0 true _ ?side1 ?side2 A5.out).mono ?_); (case side1 => repeat (first | exact HR0.out | (with_reducible refine jO ?_ _) | (with_reducible refine jN ?_ _) | (with_reducible refine jS ?_))); (case side2 => exact HC0.out); rintro e w8 ⟨rfl, hb⟩; refine ⟨_, rfl, ?_⟩; have n0_ := jA (jT (zb0 HB) hb); clear HB; have HB := n0_; clear n0_; (try clear hb); (try clear hb2); (try clear hk); (try clear hi)))
  (try simp only [Act.put, jE, jI, jJ])
  go_cut [30] (fun v30 wc => ∃ (kq : Nat) (x30_6 : Bool), v30 = .bool x30_6 ∧ Aside0 (impl_MoveGrams.j0 kq l0 a1 a2 a3 x30_6 = some (r1, r2)) ∧ Aside0 (kq ≤ k) ∧ Aside0 (Below w.heap.size w wc))
  case first =>
   have H := HC7.out
   clear HC7
   replace H := jD.mp H
   obtain ⟨t132, A90, H⟩ := H
   replace H : (if t132 = true then ((impl_isIndex.f a2 (l0.length : Int)).bind fun t133 => (if t133 = true then ((impl_areGrams.f a3).bind fun t134 => (impl_MoveGrams.j0 k l0 a1 a2 a3 (!t134))) else (impl_MoveGrams.j0 k l0 a1 a2 a3 true))) else (impl_MoveGrams.j0 k l0 a1 a2 a3 true)) = some (r1, r2) := H
   have A9 := jA A90
   clear A90
   by_cases c10 : t132 = true
   ·subst c10
    have H1 : ((impl_isIndex.f a2 (l0.length : Int)).bind fun t133 => (if t133 = true then ((impl_areGrams.f a3).bind fun t134 => (impl_MoveGrams.j0 k l0 a1 a2 a3 (!t134))) else (impl_MoveGrams.j0 k l0 a1 a2 a3 true))) = some (r1, r2) := by rw [if_pos rfl] at H; exact H
    clear H
    have H := H1
    clear H1
    replace H := jD.mp H
    obtain ⟨t133, A110, H⟩ := H
    replace H : (if t133 = true then ((impl_areGrams.f a3).bind fun t134 => (impl_MoveGrams.j0 k l0 a1 a2 a3 (!t134))) else (impl_MoveGrams.j0 k l0 a1 a2 a3 true)) = some (r1, r2) := H
    have A11 := jA A110
    clear A110
    by_cases c12 : t133 = true
    ·subst c12
     have H1 : ((impl_areGrams.f a3).bind fun t134 => (impl_MoveGrams.j0 k l0 a1 a2 a3 (!t134))) = some (r1, r2) := by rw [if_pos rfl] at H; exact H
     clear H
     have H := H1
     clear H1
     replace H := jD.mp H
     obtain ⟨t134, A130, H⟩ := H
     replace H : (impl_MoveGrams.j0 k l0 a1 a2 a3 (!t134)) = some (r1, r2) := H
     have A13 := jA A130
     clear A130
     have H' := jA H
     clear H
     go_wp2_with (first | ((with_reducible refine jH (f := 73) rfl ?_); refine goesL_ (some 17) rfl rfl Try.func73 zr rfl #[.int .i64 a1, .int .i64 (l0.length : Int)] rfl zm ?_; (with_reducible refine (impl_isIndex.calls a1 (l0.length : Int) true _ A9.out).mono ?_); rintro e w' ⟨rfl, ⟨nd, rfl⟩⟩; refine ⟨_, rfl, ?_⟩) | (go_at_call 73; (with_reducible refine (impl_isIndex.calls a2 (l0.length : Int) true _ A11.out).mono ?_); rintro e w' ⟨rfl, ⟨nd, rfl⟩⟩) | (go_at_call 59; (with_reducible refine (impl_areGrams.calls a3 t134 _ A13.out).mono ?_); rintro e w' ⟨rfl, ⟨nd, rfl⟩⟩))
     go_meet
     case rel => exact ⟨_, (!t134), zz, H', ⟨by first | omega | exact Nat.le_refl _⟩, ⟨zb0 HB⟩⟩
    ·replace c12 := Bool.eq_false_iff.mpr c12
     subst c12
     have H1 : (impl_MoveGrams.j0 k l0 a1 a2 a3 true) = some (r1, r2) := by rw [if_neg (show ¬ (false = true) by decide)] at H; exact H
     clear H
     have H := H1
     clear H1
     have H' := jA H
     clear H
     go_wp2_with (first | ((with_reducible refine jH (f := 73) rfl ?_); refine goesL_ (some 17) rfl rfl Try.func73 zr rfl #[.int .i64 a1, .int .i64 (l0.length : Int)] rfl zm ?_; (with_reducible refine (impl_isIndex.calls a1 (l0.length : Int) true _ A9.out).mono ?_); rintro e w' ⟨rfl, ⟨nd, rfl⟩⟩; refine ⟨_, rfl, ?_⟩) | (go_at_call 73; (with_reducible refine (impl_isIndex.calls a2 (l0.length : Int) false _ A11.out).mono ?_); rintro e w' ⟨rfl, ⟨nd, rfl⟩⟩))
     go_meet
     case rel => exact ⟨_, (true), zz, H', ⟨by first | omega | exact Nat.le_refl _⟩, ⟨zb0 HB⟩⟩
   ·replace c10 := Bool.eq_false_iff.mpr c10
    subst c10
    have H1 : (impl_MoveGrams.j0 k l0 a1 a2 a3 true) = some (r1, r2) := by rw [if_neg (show ¬ (false = true) by decide)] at H; exact H
    clear H
    have H := H1
    clear H1
    have H' := jA H
    clear H
    go_wp2_with (first | ((with_reducible refine jH (f := 73) rfl ?_); refine goesL_ (some 17) rfl rfl Try.func73 zr rfl #[.int .i64 a1, .int .i64 (l0.length : Int)] rfl zm ?_; (with_reducible refine (impl_isIndex.calls a1 (l0.length : Int) false _ A9.out).mono ?_); rintro e w' ⟨rfl, ⟨nd, rfl⟩⟩; refine ⟨_, rfl, ?_⟩))
    go_meet
    case rel => exact ⟨_, (true), zz, H', ⟨by first | omega | exact Nat.le_refl _⟩, ⟨zb0 HB⟩⟩
  case rest =>
   clear HC7
   try clear c1
   try clear c2
   try clear p2
   try clear c3
   try clear c6
   try clear c7
   try clear c10
   try clear c12
   obtain ⟨kq, x30_6, rfl, HA, HJ6, HB⟩ := hcut
   cases kq with
   | zero => exact absurd HA.out (by simp [impl_MoveGrams.j0])
   | succ kj6 =>
    have H := HA.out
    clear HA
    simp only [impl_MoveGrams.j0] at H
    by_cases c14 : x30_6 = true
    ·subst c14
     have H1 : (some (([] : List (S51)), 2)) = some (r1, r2) := by rw [if_pos rfl] at H; exact H
     clear H
     have H := H1
     clear H1
     simp only [jU, jY] at H
     obtain ⟨rfl, rfl⟩ := H
     go_wp2
     go_ret2
     exact ⟨_, by first | rfl | (simp [errW_none, errW_some] <;> rfl) | (simp [*, errW_none, errW_some] <;> rfl), by first | exact Kd.R_nil _ _ _ _ _ | exact Kd.N_nil _ _ _ _ _ | exact Kd.V_nil _ _ _ _ _ | exact Kd.Q_nil _ _ _ _ _ | exact Kd.S_nil _ _ _ _ _, zb0 HB⟩
    ·replace c14 := Bool.eq_false_iff.mpr c14
     subst c14
     have H1 : ((some (([] : List (S51)) : List (S51))).bind fun y135 => (if y135.length + l0.length < 5864062014805 then ((some (y135 ++ l0 : List (S51))).bind fun y138 => (if 0 ≤ a1 then (if a1 < (y138.length : Int) then ((some (y138.set (a1 : Int).toNat (⟨(rd_T51 y138 a1).f0, (rd_T51 y138 a1).f1, wrap64 (((rd_T51 y138 a1).f2) - a3)⟩ : S51) : List (S51))).bind fun y142 => (if 0 ≤ a2 then (if a2 < (y138.length : Int) then ((some (y142.set (a2 : Int).toNat (⟨(rd_T51 y142 a2).f0, (rd_T51 y142 a2).f1, wrap64 (((rd_T51 y142 a2).f2) + a3)⟩ : S51) : List (S51))).bind fun y144 => (if a1 = a2 then (some (([] : List (S51)), 5)) else ((impl_AreDepots.f kj6 y144).bind fun t145 => (if t145 = true then (some (y144, 0)) else (some (([] : List (S51)), 5)))))) else (none)) else (none))) else (none)) else (none))) else (none))) = some (r1, r2) := by rw [if_neg (show ¬ (false = true) by decide)] at H; exact H
     clear H
     have H := H1
     clear H1
     obtain ⟨y135, hy135⟩ : ∃ y_ : List (S51), y_ = (([] : List (S51))) := ⟨_, rfl⟩
     replace H : (if y135.length + l0.length < 5864062014805 then ((some (y135 ++ l0 : List (S51))).bind fun y138 => (if 0 ≤ a1 then (if a1 < (y138.length : Int) then ((some (y138.set (a1 : Int).toNat (⟨(rd_T51 y138 a1).f0, (rd_T51 y138 a1).f1, wrap64 (((rd_T51 y138 a1).f2) - a3)⟩ : S51) : List (S51))).bind fun y142 => (if 0 ≤ a2 then (if a2 < (y138.length : Int) then ((some (y142.set (a2 : Int).toNat (⟨(rd_T51 y142 a2).f0, (rd_T51 y142 a2).f1, wrap64 (((rd_T51 y142 a2).f2) + a3)⟩ : S51) : List (S51))).bind fun y144 => (if a1 = a2 then (some (([] : List (S51)), 5)) else ((impl_AreDepots.f kj6 y144).bind fun t145 => (if t145 = true then (some (y144, 0)) else (some (([] : List (S51)), 5)))))) else (none)) else (none))) else (none)) else (none))) else (none)) = some (r1, r2) := by first | (rw [hy135]; with_reducible exact H) | (have H2_ := (Option.bind_some _ _).symm.trans H; rw [hy135]; with_reducible exact H2_) | (have H2_ := (Option.bind_some _ _).symm.trans H; with_reducible exact H2_) | with_reducible exact H | (rw [hy135]; exact H) | exact H
     have Ny135 := jA hy135
     clear hy135
     by_cases c15 : y135.length + l0.length < 5864062014805
     ·rw [if_pos c15] at H
      have LMc15 := jA c15
      clear c15
      obtain ⟨y138, hy138⟩ : ∃ y_ : List (S51), y_ = (y135 ++ l0) := ⟨_, rfl⟩
      replace H : (if 0 ≤ a1 then (if a1 < (y138.length : Int) then ((some (y138.set (a1 : Int).toNat (⟨(rd_T51 y138 a1).f0, (rd_T51 y138 a1).f1, wrap64 (((rd_T51 y138 a1).f2) - a3)⟩ : S51) : List (S51))).bind fun y142 => (if 0 ≤ a2 then (if a2 < (y138.length : Int) then ((some (y142.set (a2 : Int).toNat (⟨(rd_T51 y142 a2).f0, (rd_T51 y142 a2).f1, wrap64 (((rd_T51 y142 a2).f2) + a3)⟩ : S51) : List (S51))).bind fun y144 => (if a1 = a2 then (some (([] : List (S51)), 5)) else ((impl_AreDepots.f kj6 y144).bind fun t145 => (if t145 = true then (some (y144, 0)) else (some (([] : List (S51)), 5)))))) else (none)) else (none))) else (none)) else (none)) = some (r1, r2) := by first | (rw [hy138]; with_reducible exact H) | (have H2_ := (Option.bind_some _ _).symm.trans H; rw [hy138]; with_reducible exact H2_) | (have H2_ := (Option.bind_some _ _).symm.trans H; with_reducible exact H2_) | with_reducible exact H | (rw [hy138]; exact H) | exact H
      have Ny138 := jA hy138
      clear hy138
      by_cases c16 : 0 ≤ a1
      ·rw [if_pos c16] at H
       have c16b0 : decide (0 ≤ a1) = true := jG c16
       clear c16
       by_cases c17 : a1 < (y138.length : Int)
       ·rw [if_pos c17] at H
        have c17b0 : decide (a1 < (y138.length : Int)) = true := jG c17
        clear c17
        obtain ⟨y142, hy142⟩ : ∃ y_ : List (S51), y_ = (y138.set (a1 : Int).toNat (⟨(rd_T51 y138 a1).f0, (rd_T51 y138 a1).f1, wrap64 (((rd_T51 y138 a1).f2) - a3)⟩ : S51)) := ⟨_, rfl⟩
        replace H : (if 0 ≤ a2 then (if a2 < (y138.length : Int) then ((some (y142.set (a2 : Int).toNat (⟨(rd_T51 y142 a2).f0, (rd_T51 y142 a2).f1, wrap64 (((rd_T51 y142 a2).f2) + a3)⟩ : S51) : List (S51))).bind fun y144 => (if a1 = a2 then (some (([] : List (S51)), 5)) else ((impl_AreDepots.f kj6 y144).bind fun t145 => (if t145 = true then (some (y144, 0)) else (some (([] : List (S51)), 5)))))) else (none)) else (none)) = some (r1, r2) := by first | (rw [hy142]; with_reducible exact H) | (have H2_ := (Option.bind_some _ _).symm.trans H; rw [hy142]; with_reducible exact H2_) | (have H2_ := (Option.bind_some _ _).symm.trans H; with_reducible exact H2_) | with_reducible exact H | (rw [hy142]; exact H) | exact H
        have Ny142 := jA hy142
        clear hy142
        by_cases c19 : 0 ≤ a2
        ·rw [if_pos c19] at H
         have c19b0 : decide (0 ≤ a2) = true := jG c19
         clear c19
         by_cases c20 : a2 < (y138.length : Int)
         ·rw [if_pos c20] at H
          have c20b0 : decide (a2 < (y138.length : Int)) = true := jG c20
          clear c20
          obtain ⟨y144, hy144⟩ : ∃ y_ : List (S51), y_ = (y142.set (a2 : Int).toNat (⟨(rd_T51 y142 a2).f0, (rd_T51 y142 a2).f1, wrap64 (((rd_T51 y142 a2).f2) + a3)⟩ : S51)) := ⟨_, rfl⟩
          replace H : (if a1 = a2 then (some (([] : List (S51)), 5)) else ((impl_AreDepots.f kj6 y144).bind fun t145 => (if t145 = true then (some (y144, 0)) else (some (([] : List (S51)), 5))))) = some (r1, r2) := by first | (rw [hy144]; with_reducible exact H) | (have H2_ := (Option.bind_some _ _).symm.trans H; rw [hy144]; with_reducible exact H2_) | (have H2_ := (Option.bind_some _ _).symm.trans H; with_reducible exact H2_) | with_reducible exact H | (rw [hy144]; exact H) | exact H
          have Ny144 := jA hy144
          clear hy144
          by_cases c22 : a1 = a2
          ·rw [if_pos c22] at H
           have c22b0 : (a1 == a2) = true := beq_iff_eq.mpr c22
           have c22b1 : (a1 != a2) = false := bne_eq_false_iff_eq.mpr c22
           clear c22
           simp only [jU, jY] at H
           obtain ⟨rfl, rfl⟩ := H
           go_wp2_with (first | ((with_reducible refine gate_dst (N := 31) rfl ?_); (try (refine gate_guard (by rfl) ?_; dsimp only)); refine Kd.R_lit k51 _ 51 ?hg (N := 31) ?hd (xs := ([] : List (S51))) (inner := []) (ok := fun _ => True) (okp := fun _ => True) ?hr ?hp (fun _ hk => hk) trivial (Below.refl _ _) (Nat.le_refl _) (by simp) ?_; (case hd => rfl); (case hg => rfl); (case hr => first | (go_simp; done) | (go_simp; rfl)); (case hp => exact (Reps.none _ _)); intro v136 w23 ho24 hb hg_ hnew_; clear hg_ hnew_; (first | rw [← Ny135.out] at ho24 | (simp only [Int.reduceToNat] at ho24; rw [← Ny135.out] at ho24)); have n0_ := jA (Kd.R_lower ho24 (jW (zb0 HB))); have n1_ := jA (jT (zb0 HB) hb); clear HB; have HO137 := n0_; have HB := n1_; clear n0_ n1_; clear hb ho24) | ((with_reducible refine gate_builtin (b := .append) (xs := #[.tmp 31, .tmp 32]) rfl ?_); (try (refine gate_guard (by rfl) ?_; dsimp only)); at_builtin; refine Kd.R_append_rows k51 (w0 := w) w.heap.size rfl (.tmp 31) (.tmp 32) 28 51 (.agg #[(.int .i64 0), (.int .i64 0), (.int .i64 0)]) 24 rfl Try.underlying28 info51 rfl (by decide) (by omega) v136 y135 l0 _ _ _ (fun _ => True) (fun _ => False) rfl rfl ?aO ?aR (fun _ _ h => h) (fun _ h => h.elim) ?aF ?aB ?aS ?aL ?_; (case aR => repeat (first | exact HR0.out | exact (Kd.C_below HR0.out HB.out) | (with_reducible refine jO ?_ _) | (with_reducible refine jN ?_ _) | (with_reducible refine jS ?_))); (case aB => exact (zb0 HB)); (case aF => exact (fun _ _ => trivial)); (case aO => exact (zo HO137)); (case aS => exact (jW (zb0 HB))); (case aL => have := LMc15.out; omega); intro v139 w25 ho hb hg hat; rw [← Ny138.out] at ho; have n0_ := jA (hb); have n1_ := jA (ho); clear HB; clear HO137; have HB := n0_; have HO140 := n1_; clear n0_ n1_; clear ho hb hg hat; obtain ⟨Ao26, co26, eo26⟩ := Kd.R_slice HO140.out; subst eo26; have p141 : 0 ≤ (a1 : Int) := jB za; have q141 : a1 < (y138.length : Int) := jB za; obtain ⟨ad141, e141, hx141_0, hx141_1, hx141_2⟩ := at_T51 (jF HO140.out).2.2 a1 p141 q141; cases e141; replace p141 := eq_true p141; replace q141 := eq_true q141; have p18 : 0 ≤ (a1 : Int) := jB za; have q18 : (a1 : Int) < ((y138.length : Int) : Int) := jB za; obtain ⟨go18, co18, eo18, gb18, gl18, cl18, HG18⟩ := Kd.R_form HO140.out (by omega); (first | cases eo18 | (injection eo18 with ea_ en_ ec_; (first | subst ea_ | (injection ea_ with ea_; subst ea_)); subst ec_; clear en_)); have GB18 := jA gb18; have GG18 := jA HG18; clear gb18 gl18 HG18; (first | simp only [add_plain] at hx141_0 | skip); (first | simp only [add_plain] at hx141_1 | skip); (first | simp only [add_plain] at hx141_2 | skip); obtain ⟨ce18, hcl18, hM18, hcc18, hfr18⟩ := Kd.R_elem HO140.out z51 (a1 : Int) p18 q18; obtain rfl := k51_openM hM18; have hx18_0 : w25.cell? ⟨go18, (a1 : Int).toNat * 3, none⟩ = some (.int .i64 ((rd_T51 y138 a1).f0)) := hcc18 0 _ rfl; have hx18_1 : w25.cell? ⟨go18, (a1 : Int).toNat * 3 + 1, none⟩ = some (.int .i64 ((rd_T51 y138 a1).f1)) := hcc18 1 _ rfl; have hx18_2 : w25.cell? ⟨go18, (a1 : Int).toNat * 3 + 2, none⟩ = some (.int .i64 ((rd_T51 y138 a1).f2)) := hcc18 2 _ rfl; have hf18_0 : w25.frozen? ⟨go18, (a1 : Int).toNat * 3, none⟩ = false := hfr18 0; have hf18_1 : w25.frozen? ⟨go18, (a1 : Int).toNat * 3 + 1, none⟩ = false := hfr18 1; have hf18_2 : w25.frozen? ⟨go18, (a1 : Int).toNat * 3 + 2, none⟩ = false := hfr18 2; clear hcl18 hcc18 hfr18 hM18; replace p18 := eq_true p18; replace q18 := eq_true q18; have HX27 := jA (show Kd.R k51 51 w25 w.heap.size (fun _ => True) (.slice (some ⟨go18, 0, none⟩) y138.length co26) y138 from (zo HO140)); obtain ⟨ce27, hcl27, hM27, hcc27, hfr27⟩ := Kd.R_elem HX27.out z51 (a1 : Int) (jB za) (by have h_ : (a1 : Int) < ((y138.length : Int) : Int) := jB za; first | exact h_ | (have e_ := (jF HO140.out).1; omega) | simpa using h_); obtain rfl := k51_openM hM27; have HP27 := Kd.R_seg HX27.out (a1 : Int) (jB za) (by have h_ : (a1 : Int) < ((y138.length : Int) : Int) := jB za; first | exact h_ | (have e_ := (jF HO140.out).1; omega) | simpa using h_) (seg := [.int .i64 (wrap64 (((rd_T51 y138 a1).f2) - a3))]) (j := 2) hcl27 hcc27 (show 3 ≤ 3 from by decide) (x' := (⟨(rd_T51 y138 a1).f0, (rd_T51 y138 a1).f1, wrap64 (((rd_T51 y138 a1).f2) - a3)⟩ : S51)) (k51_mkM _ _ _ (⟨(rd_T51 y138 a1).f0, (rd_T51 y138 a1).f1, wrap64 (((rd_T51 y138 a1).f2) - a3)⟩ : S51) ) (fun _ hk => hk); have hx27_2 := hcc27 2 _ rfl; (try simp only [show (k51).sz = 3 from rfl, Nat.mul_one, Nat.add_zero] at hx27_2); have hf27_2 := hfr27 2; (try simp only [show (k51).sz = 3 from rfl, Nat.mul_one, Nat.add_zero] at hf27_2); clear hcl27 hcc27 hfr27 hM27) | ((with_reducible refine gate_store (t := 2) (p := 42) rfl ?_); refine store_event (t := 2) (p := 42) (v := ?vo_w28) (w1 := (w25.setCell ⟨go18, (a1 : Int).toNat * 3 + 2, none⟩ (.int .i64 (wrap64 (((rd_T51 y138 a1).f2) - a3))))) ?hg ?ho ?hn ?hr ?_; (case ho => rfl); (case hg => rfl); (case hn => rfl); (case hr => first | (go_simp; done) | (go_simp; rfl)); intro w28 hw; have hg : w25.grownBy w28 (some go18) := (by rw [hw]; exact HP27.2); have hp_ : Kd.R k51 51 w28 w.heap.size (fun _ => True) (.slice (some ⟨go18, 0, none⟩) y138.length co26) y142 := (by rw [hw, Ny142.out]; exact HP27.1); clear HP27; have n0_ := jA (hp_); have n1_ := jA ((by rw [hw]; exact jQ (HB.out) GB18.out : Below w.heap.size w w28)); clear HO140; clear HB; have HO140 := n0_; have HB := n1_; clear n0_ n1_; clear hg hw hp_; have p143 : 0 ≤ (a2 : Int) := jB za; have q143 : a2 < (y142.length : Int) := (by have h_ : (a2 : Int) < ((y138.length : Int) : Int) := jB za; first | (have e_ := (jF HO140.out).1; omega) | simpa only [Ny142.out, List.length_set] using h_); have ql143 : ((a2 : Int) < ((y138.length : Int) : Int)) = True := eq_true (jB za); obtain ⟨ad143, e143, hx143_0, hx143_1, hx143_2⟩ := at_T51 (jF HO140.out).2.2 a2 p143 q143; obtain rfl : (⟨go18, 0, none⟩ : Addr) = ad143 := (by injection e143); (first | simp only [add_plain] at hx143_0 | simp only [add_at] at hx143_0 | simp only [Addr.add, Nat.zero_add] at hx143_0 | skip); (first | simp only [add_plain] at hx143_1 | simp only [add_at] at hx143_1 | simp only [Addr.add, Nat.zero_add] at hx143_1 | skip); (first | simp only [add_plain] at hx143_2 | simp only [add_at] at hx143_2 | simp only [Addr.add, Nat.zero_add] at hx143_2 | skip); replace p143 := eq_true p143; replace q143 := eq_true q143; have p21 : 0 ≤ (a2 : Int) := jB za; have q21 : (a2 : Int) < ((y138.length : Int) : Int) := jB za; obtain ⟨ce21, hcl21, hM21, hcc21, hfr21⟩ := Kd.R_elem HO140.out z51 (a2 : Int) p21 q21; obtain rfl := k51_openM hM21; have hx21_0 : w28.cell? ⟨go18, (a2 : Int).toNat * 3, none⟩ = some (.int .i64 ((rd_T51 y142 a2).f0)) := hcc21 0 _ rfl; have hx21_1 : w28.cell? ⟨go18, (a2 : Int).toNat * 3 + 1, none⟩ = some (.int .i64 ((rd_T51 y142 a2).f1)) := hcc21 1 _ rfl; have hx21_2 : w28.cell? ⟨go18, (a2 : Int).toNat * 3 + 2, none⟩ = some (.int .i64 ((rd_T51 y142 a2).f2)) := hcc21 2 _ rfl; have hf21_0 : w28.frozen? ⟨go18, (a2 : Int).toNat * 3, none⟩ = false := hfr21 0; have hf21_1 : w28.frozen? ⟨go18, (a2 : Int).toNat * 3 + 1, none⟩ = false := hfr21 1; have hf21_2 : w28.frozen? ⟨go18, (a2 : Int).toNat * 3 + 2, none⟩ = false := hfr21 2; clear hcl21 hcc21 hfr21 hM21; replace p21 := eq_true p21; replace q21 := eq_true q21; have HX29 := jA (show Kd.R k51 51 w28 w.heap.size (fun _ => True) (.slice (some ⟨go18, 0, none⟩) y138.length co26) y142 from (zo HO140)); obtain ⟨ce29, hcl29, hM29, hcc29, hfr29⟩ := Kd.R_elem HX29.out z51 (a2 : Int) (jB za) (by have h_ : (a2 : Int) < ((y138.length : Int) : Int) := jB za; first | exact h_ | (have e_ := (jF HO140.out).1; omega) | simpa using h_); obtain rfl := k51_openM hM29; have HP29 := Kd.R_seg HX29.out (a2 : Int) (jB za) (by have h_ : (a2 : Int) < ((y138.length : Int) : Int) := jB za; first | exact h_ | (have e_ := (jF HO140.out).1; omega) | simpa using h_) (seg := [.int .i64 (wrap64 (((rd_T51 y142 a2).f2) + a3))]) (j := 2) hcl29 hcc29 (show 3 ≤ 3 from by decide) (x' := (⟨(rd_T51 y142 a2).f0, (rd_T51 y142 a2).f1, wrap64 (((rd_T51 y142 a2).f2) + a3)⟩ : S51)) (k51_mkM _ _ _ (⟨(rd_T51 y142 a2).f0, (rd_T51 y142 a2).f1, wrap64 (((rd_T51 y142 a2).f2) + a3)⟩ : S51) ) (fun _ hk => hk); have hx29_2 := hcc29 2 _ rfl; (try simp only [show (k51).sz = 3 from rfl, Nat.mul_one, Nat.add_zero] at hx29_2); have hf29_2 := hfr29 2; (try simp only [show (k51).sz = 3 from rfl, Nat.mul_one, Nat.add_zero] at hf29_2); clear hcl29 hcc29 hfr29 hM29) | ((with_reducible refine gate_store (t := 2) (p := 51) rfl ?_); refine store_event (t := 2) (p := 51) (v := ?vo_w30) (w1 := (w28.setCell ⟨go18, (a2 : Int).toNat * 3 + 2, none⟩ (.int .i64 (wrap64 (((rd_T51 y142 a2).f2) + a3))))) ?hg ?ho ?hn ?hr ?_; (case ho => rfl); (case hg => rfl); (case hn => rfl); (case hr => first | (go_simp; done) | (go_simp; rfl)); intro w30 hw; have hg : w28.grownBy w30 (some go18) := (by rw [hw]; exact HP29.2); have hp_ : Kd.R k51 51 w30 w.heap.size (fun _ => True) (.slice (some ⟨go18, 0, none⟩) y138.length co26) y144 := (by rw [hw, Ny144.out]; exact HP29.1); clear HP29; have n0_ := jA (hp_); have n1_ := jA ((by rw [hw]; exact jQ (HB.out) GB18.out : Below w.heap.size w w30)); clear HO140; clear HB; have HO140 := n0_; have HB := n1_; clear n0_ n1_; clear hg hw hp_))
           go_ret2
           exact ⟨_, by first | rfl | (simp [errW_none, errW_some] <;> rfl) | (simp [*, errW_none, errW_some] <;> rfl), by first | exact Kd.R_nil _ _ _ _ _ | exact Kd.N_nil _ _ _ _ _ | exact Kd.V_nil _ _ _ _ _ | exact Kd.Q_nil _ _ _ _ _ | exact Kd.S_nil _ _ _ _ _, zb0 HB⟩
          ·rw [if_neg c22] at H
           have c22b0 : (a1 == a2) = false := beq_eq_false_iff_ne.mpr c22
           have c22b1 : (a1 != a2) = true := bne_iff_ne.mpr c22
           replace H := jD.mp H
           obtain ⟨t145, A310, H⟩ := H
           replace H : (if t145 = true then (some (y144, 0)) else (some (([] : List (S51)), 5))) = some (r1, r2) := H
           have A31 := jA A310
           clear A310
           by_cases c32 : t145 = true
           ·subst c32
            have H1 : (some (y144, 0)) = some (r1, r2) := by rw [if_pos rfl] at H; exact H
            clear H
            have H := H1
            clear H1
            simp only [jU, jY] at H
            obtain ⟨rfl, rfl⟩ := H
            go_wp2_with (first | ((with_reducible refine gate_dst (N := 31) rfl ?_); (try (refine gate_guard (by rfl) ?_; dsimp only)); refine Kd.R_lit k51 _ 51 ?hg (N := 31) ?hd (xs := ([] : List (S51))) (inner := []) (ok := fun _ => True) (okp := fun _ => True) ?hr ?hp (fun _ hk => hk) trivial (Below.refl _ _) (Nat.le_refl _) (by simp) ?_; (case hd => rfl); (case hg => rfl); (case hr => first | (go_simp; done) | (go_simp; rfl)); (case hp => exact (Reps.none _ _)); intro v136 w33 ho34 hb hg_ hnew_; clear hg_ hnew_; (first | rw [← Ny135.out] at ho34 | (simp only [Int.reduceToNat] at ho34; rw [← Ny135.out] at ho34)); have n0_ := jA (Kd.R_lower ho34 (jW (zb0 HB))); have n1_ := jA (jT (zb0 HB) hb); clear HB; have HO137 := n0_; have HB := n1_; clear n0_ n1_; clear hb ho34) | ((with_reducible refine gate_builtin (b := .append) (xs := #[.tmp 31, .tmp 32]) rfl ?_); (try (refine gate_guard (by rfl) ?_; dsimp only)); at_builtin; refine Kd.R_append_rows k51 (w0 := w) w.heap.size rfl (.tmp 31) (.tmp 32) 28 51 (.agg #[(.int .i64 0), (.int .i64 0), (.int .i64 0)]) 24 rfl Try.underlying28 info51 rfl (by decide) (by omega) v136 y135 l0 _ _ _ (fun _ => True) (fun _ => False) rfl rfl ?aO ?aR (fun _ _ h => h) (fun _ h => h.elim) ?aF ?aB ?aS ?aL ?_; (case aR => repeat (first | exact HR0.out | exact (Kd.C_below HR0.out HB.out) | (with_reducible refine jO ?_ _) | (with_reducible refine jN ?_ _) | (with_reducible refine jS ?_))); (case aB => exact (zb0 HB)); (case aF => exact (fun _ _ => trivial)); (case aO => exact (zo HO137)); (case aS => exact (jW (zb0 HB))); (case aL => have := LMc15.out; omega); intro v139 w35 ho hb hg hat; rw [← Ny138.out] at ho; have n0_ := jA (hb); have n1_ := jA (ho); clear HB; clear HO137; have HB := n0_; have HO140 := n1_; clear n0_ n1_; clear ho hb hg hat; obtain ⟨Ao36, co36, eo36⟩ := Kd.R_slice HO140.out; subst eo36; have p141 : 0 ≤ (a1 : Int) := jB za; have q141 : a1 < (y138.length : Int) := jB za; obtain ⟨ad141, e141, hx141_0, hx141_1, hx141_2⟩ := at_T51 (jF HO140.out).2.2 a1 p141 q141; cases e141; replace p141 := eq_true p141; replace q141 := eq_true q141; have p18 : 0 ≤ (a1 : Int) := jB za; have q18 : (a1 : Int) < ((y138.length : Int) : Int) := jB za; obtain ⟨go18, co18, eo18, gb18, gl18, cl18, HG18⟩ := Kd.R_form HO140.out (by omega); (first | cases eo18 | (injection eo18 with ea_ en_ ec_; (first | subst ea_ | (injection ea_ with ea_; subst ea_)); subst ec_; clear en_)); have GB18 := jA gb18; have GG18 := jA HG18; clear gb18 gl18 HG18; (first | simp only [add_plain] at hx141_0 | skip); (first | simp only [add_plain] at hx141_1 | skip); (first | simp only [add_plain] at hx141_2 | skip); obtain ⟨ce18, hcl18, hM18, hcc18, hfr18⟩ := Kd.R_elem HO140.out z51 (a1 : Int) p18 q18; obtain rfl := k51_openM hM18; have hx18_0 : w35.cell? ⟨go18, (a1 : Int).toNat * 3, none⟩ = some (.int .i64 ((rd_T51 y138 a1).f0)) := hcc18 0 _ rfl; have hx18_1 : w35.cell? ⟨go18, (a1 : Int).toNat * 3 + 1, none⟩ = some (.int .i64 ((rd_T51 y138 a1).f1)) := hcc18 1 _ rfl; have hx18_2 : w35.cell? ⟨go18, (a1 : Int).toNat * 3 + 2, none⟩ = some (.int .i64 ((rd_T51 y138 a1).f2)) := hcc18 2 _ rfl; have hf18_0 : w35.frozen? ⟨go18, (a1 : Int).toNat * 3, none⟩ = false := hfr18 0; have hf18_1 : w35.frozen? ⟨go18, (a1 : Int).toNat * 3 + 1, none⟩ = false := hfr18 1; have hf18_2 : w35.frozen? ⟨go18, (a1 : Int).toNat * 3 + 2, none⟩ = false := hfr18 2; clear hcl18 hcc18 hfr18 hM18; replace p18 := eq_true p18; replace q18 := eq_true q18; have HX37 := jA (show Kd.R k51 51 w35 w.heap.size (fun _ => True) (.slice (some ⟨go18, 0, none⟩) y138.length co36) y138 from (zo HO140)); obtain ⟨ce37, hcl37, hM37, hcc37, hfr37⟩ := Kd.R_elem HX37.out z51 (a1 : Int) (jB za) (by have h_ : (a1 : Int) < ((y138.length : Int) : Int) := jB za; first | exact h_ | (have e_ := (jF HO140.out).1; omega) | simpa using h_); obtain rfl := k51_openM hM37; have HP37 := Kd.R_seg HX37.out (a1 : Int) (jB za) (by have h_ : (a1 : Int) < ((y138.length : Int) : Int) := jB za; first | exact h_ | (have e_ := (jF HO140.out).1; omega) | simpa using h_) (seg := [.int .i64 (wrap64 (((rd_T51 y138 a1).f2) - a3))]) (j := 2) hcl37 hcc37 (show 3 ≤ 3 from by decide) (x' := (⟨(rd_T51 y138 a1).f0, (rd_T51 y138 a1).f1, wrap64 (((rd_T51 y138 a1).f2) - a3)⟩ : S51)) (k51_mkM _ _ _ (⟨(rd_T51 y138 a1).f0, (rd_T51 y138 a1).f1, wrap64 (((rd_T51 y138 a1).f2) - a3)⟩ : S51) ) (fun _ hk => hk); have hx37_2 := hcc37 2 _ rfl; (try simp only [show (k51).sz = 3 from rfl, Nat.mul_one, Nat.add_zero] at hx37_2); have hf37_2 := hfr37 2; (try simp only [show (k51).sz = 3 from rfl, Nat.mul_one, Nat.add_zero] at hf37_2); clear hcl37 hcc37 hfr37 hM37) | ((with_reducible refine gate_store (t := 2) (p := 42) rfl ?_); refine store_event (t := 2) (p := 42) (v := ?vo_w38) (w1 := (w35.setCell ⟨go18, (a1 : Int).toNat * 3 + 2, none⟩ (.int .i64 (wrap64 (((rd_T51 y138 a1).f2) - a3))))) ?hg ?ho ?hn ?hr ?_; (case ho => rfl); (case hg => rfl); (case hn => rfl); (case hr => first | (go_simp; done) | (go_simp; rfl)); intro w38 hw; have hg : w35.grownBy w38 (some go18) := (by rw [hw]; exact HP37.2); have hp_ : Kd.R k51 51 w38 w.heap.size (fun _ => True) (.slice (some ⟨go18, 0, none⟩) y138.length co36) y142 := (by rw [hw, Ny142.out]; exact HP37.1); clear HP37; have n0_ := jA (hp_); have n1_ := jA ((by rw [hw]; exact jQ (HB.out) GB18.out : Below w.heap.size w w38)); clear HO140; clear HB; have HO140 := n0_; have HB := n1_; clear n0_ n1_; clear hg hw hp_; have p143 : 0 ≤ (a2 : Int) := jB za; have q143 : a2 < (y142.length : Int) := (by have h_ : (a2 : Int) < ((y138.length : Int) : Int) := jB za; first | (have e_ := (jF HO140.out).1; omega) | simpa only [Ny142.out, List.length_set] using h_); have ql143 : ((a2 : Int) < ((y138.length : Int) : Int)) = True := eq_true (jB za); obtain ⟨ad143, e143, hx143_0, hx143_1, hx143_2⟩ := at_T51 (jF HO140.out).2.2 a2 p143 q143; obtain rfl : (⟨go18, 0, none⟩ : Addr) = ad143 := (by injection e143); (first | simp only [add_plain] at hx143_0 | simp only [add_at] at hx143_0 | simp only [Addr.add, Nat.zero_add] at hx143_0 | skip); (first | simp only [add_plain] at hx143_1 | simp only [add_at] at hx143_1 | simp only [Addr.add, Nat.zero_add] at hx143_1 | skip); (first | simp only [add_plain] at hx143_2 | simp only [add_at] at hx143_2 | simp only [Addr.add, Nat.zero_add] at hx143_2 | skip); replace p143 := eq_true p143; replace q143 := eq_true q143; have p21 : 0 ≤ (a2 : Int) := jB za; have q21 : (a2 : Int) < ((y138.length : Int) : Int) := jB za; obtain ⟨ce21, hcl21, hM21, hcc21, hfr21⟩ := Kd.R_elem HO140.out z51 (a2 : Int) p21 q21; obtain rfl := k51_openM hM21; have hx21_0 : w38.cell? ⟨go18, (a2 : Int).toNat * 3, none⟩ = some (.int .i64 ((rd_T51 y142 a2).f0)) := hcc21 0 _ rfl; have hx21_1 : w38.cell? ⟨go18, (a2 : Int).toNat * 3 + 1, none⟩ = some (.int .i64 ((rd_T51 y142 a2).f1)) := hcc21 1 _ rfl; have hx21_2 : w38.cell? ⟨go18, (a2 : Int).toNat * 3 + 2, none⟩ = some (.int .i64 ((rd_T51 y142 a2).f2)) := hcc21 2 _ rfl; have hf21_0 : w38.frozen? ⟨go18, (a2 : Int).toNat * 3, none⟩ = false := hfr21 0; have hf21_1 : w38.frozen? ⟨go18, (a2 : Int).toNat * 3 + 1, none⟩ = false := hfr21 1; have hf21_2 : w38.frozen? ⟨go18, (a2 : Int).toNat * 3 + 2, none⟩ = false := hfr21 2; clear hcl21 hcc21 hfr21 hM21; replace p21 := eq_true p21; replace q21 := eq_true q21; have HX39 := jA (show Kd.R k51 51 w38 w.heap.size (fun _ => True) (.slice (some ⟨go18, 0, none⟩) y138.length co36) y142 from (zo HO140)); obtain ⟨ce39, hcl39, hM39, hcc39, hfr39⟩ := Kd.R_elem HX39.out z51 (a2 : Int) (jB za) (by have h_ : (a2 : Int) < ((y138.length : Int) : Int) := jB za; first | exact h_ | (have e_ := (jF HO140.out).1; omega) | simpa using h_); obtain rfl := k51_openM hM39; have HP39 := Kd.R_seg HX39.out (a2 : Int) (jB za) (by have h_ : (a2 : Int) < ((y138.length : Int) : Int) := jB za; first | exact h_ | (have e_ := (jF HO140.out).1; omega) | simpa using h_) (seg := [.int .i64 (wrap64 (((rd_T51 y142 a2).f2) + a3))]) (j := 2) hcl39 hcc39 (show 3 ≤ 3 from by decide) (x' := (⟨(rd_T51 y142 a2).f0, (rd_T51 y142 a2).f1, wrap64 (((rd_T51 y142 a2).f2) + a3)⟩ : S51)) (k51_mkM _ _ _ (⟨(rd_T51 y142 a2).f0, (rd_T51 y142 a2).f1, wrap64 (((rd_T51 y142 a2).f2) + a3)⟩ : S51) ) (fun _ hk => hk); have hx39_2 := hcc39 2 _ rfl; (try simp only [show (k51).sz = 3 from rfl, Nat.mul_one, Nat.add_zero] at hx39_2); have hf39_2 := hfr39 2; (try simp only [show (k51).sz = 3 from rfl, Nat.mul_one, Nat.add_zero] at hf39_2); clear hcl39 hcc39 hfr39 hM39) | ((with_reducible refine gate_store (t := 2) (p := 51) rfl ?_); refine store_event (t := 2) (p := 51) (v := ?vo_w40) (w1 := (w38.setCell ⟨go18, (a2 : Int).toNat * 3 + 2, none⟩ (.int .i64 (wrap64 (((rd_T51 y142 a2).f2) + a3))))) ?hg ?ho ?hn ?hr ?_; (case ho => rfl); (case hg => rfl); (case hn => rfl); (case hr => first | (go_simp; done) | (go_simp; rfl)); intro w40 hw; have hg : w38.grownBy w40 (some go18) := (by rw [hw]; exact HP39.2); have hp_ : Kd.R k51 51 w40 w.heap.size (fun _ => True) (.slice (some ⟨go18, 0, none⟩) y138.length co36) y144 := (by rw [hw, Ny144.out]; exact HP39.1); clear HP39; have n0_ := jA (hp_); have n1_ := jA ((by rw [hw]; exact jQ (HB.out) GB18.out : Below w.heap.size w w40)); clear HO140; clear HB; have HO140 := n0_; have HB := n1_; clear n0_ n1_; clear hg hw hp_) | (go_at_call 22; refine calls_of_args (args' := #[.slice (some ⟨go18, 0, none⟩) y144.length co36]) (by first | (rw [show y144.length = y138.length from (jF HO140.out).1.symm] <;> rfl) | rfl) ?_; (with_reducible refine (impl_AreDepots.calls kj6 _ _ y144 true _ ?side1 ?side2 A31.out).mono ?_); (case side1 => repeat (first | exact (jF HO140.out).2.2 | (with_reducible refine jO ?_ _) | (with_reducible refine jN ?_ _) | (with_reducible refine jS ?_))); (case side2 => rw [show y144.length = y138.length from (jF HO140.out).1.symm]; exact (jF HO140.out).2.1); rintro e w41 ⟨rfl, hb⟩; have n0_ := jA (Kd.R_below (zo HO140) hb); have n1_ := jA (jT (zb0 HB) hb); clear HO140; clear HB; have HO140 := n0_; have HB := n1_; clear n0_ n1_; (try clear hb); (try clear hb2); (try clear hk); (try clear hi)))
            go_ret2
            exact ⟨_, by first | rfl | (simp [errW_none, errW_some] <;> rfl) | (simp [*, errW_none, errW_some] <;> rfl), by (with_reducible repeat (first | apply ja | apply jZ | apply jX)); exact HO140.out, zb0 HB⟩
           ·replace c32 := Bool.eq_false_iff.mpr c32
            subst c32
            have H1 : (some (([] : List (S51)), 5)) = some (r1, r2) := by rw [if_neg (show ¬ (false = true) by decide)] at H; exact H
            clear H
            have H := H1
            clear H1
            simp only [jU, jY] at H
            obtain ⟨rfl, rfl⟩ := H
            go_wp2_with (first | ((with_reducible refine gate_dst (N := 31) rfl ?_); (try (refine gate_guard (by rfl) ?_; dsimp only)); refine Kd.R_lit k51 _ 51 ?hg (N := 31) ?hd (xs := ([] : List (S51))) (inner := []) (ok := fun _ => True) (okp := fun _ => True) ?hr ?hp (fun _ hk => hk) trivial (Below.refl _ _) (Nat.le_refl _) (by simp) ?_; (case hd => rfl); (case hg => rfl); (case hr => first | (go_simp; done) | (go_simp; rfl)); (case hp => exact (Reps.none _ _)); intro v136 w42 ho43 hb hg_ hnew_; clear hg_ hnew_; (first | rw [← Ny135.out] at ho43 | (simp only [Int.reduceToNat] at ho43; rw [← Ny135.out] at ho43)); have n0_ := jA (Kd.R_lower ho43 (jW (zb0 HB))); have n1_ := jA (jT (zb0 HB) hb); clear HB; have HO137 := n0_; have HB := n1_; clear n0_ n1_; clear hb ho43) | ((with_reducible refine gate_builtin (b := .append) (xs := #[.tmp 31, .tmp 32]) rfl ?_); (try (refine gate_guard (by rfl) ?_; dsimp only)); at_builtin; refine Kd.R_append_rows k51 (w0 := w) w.heap.size rfl (.tmp 31) (.tmp 32) 28 51 (.agg #[(.int .i64 0), (.int .i64 0), (.int .i64 0)]) 24 rfl Try.underlying28 info51 rfl (by decide) (by omega) v136 y135 l0 _ _ _ (fun _ => True) (fun _ => False) rfl rfl ?aO ?aR (fun _ _ h => h) (fun _ h => h.elim) ?aF ?aB ?aS ?aL ?_; (case aR => repeat (first | exact HR0.out | exact (Kd.C_below HR0.out HB.out) | (with_reducible refine jO ?_ _) | (with_reducible refine jN ?_ _) | (with_reducible refine jS ?_))); (case aB => exact (zb0 HB)); (case aF => exact (fun _ _ => trivial)); (case aO => exact (zo HO137)); (case aS => exact (jW (zb0 HB))); (case aL => have := LMc15.out; omega); intro v139 w44 ho hb hg hat; rw [← Ny138.out] at ho; have n0_ := jA (hb); have n1_ := jA (ho); clear HB; clear HO137; have HB := n0_; have HO140 := n1_; clear n0_ n1_; clear ho hb hg hat; obtain ⟨Ao45, co45, eo45⟩ := Kd.R_slice HO140.out; subst eo45; have p141 : 0 ≤ (a1 : Int) := jB za; have q141 : a1 < (y138.length : Int) := jB za; obtain ⟨ad141, e141, hx141_0, hx141_1, hx141_2⟩ := at_T51 (jF HO140.out).2.2 a1 p141 q141; cases e141; replace p141 := eq_true p141; replace q141 := eq_true q141; have p18 : 0 ≤ (a1 : Int) := jB za; have q18 : (a1 : Int) < ((y138.length : Int) : Int) := jB za; obtain ⟨go18, co18, eo18, gb18, gl18, cl18, HG18⟩ := Kd.R_form HO140.out (by omega); (first | cases eo18 | (injection eo18 with ea_ en_ ec_; (first | subst ea_ | (injection ea_ with ea_; subst ea_)); subst ec_; clear en_)); have GB18 := jA gb18; have GG18 := jA HG18; clear gb18 gl18 HG18; (first | simp only [add_plain] at hx141_0 | skip); (first | simp only [add_plain] at hx141_1 | skip); (first | simp only [add_plain] at hx141_2 | skip); obtain ⟨ce18, hcl18, hM18, hcc18, hfr18⟩ := Kd.R_elem HO140.out z51 (a1 : Int) p18 q18; obtain rfl := k51_openM hM18; have hx18_0 : w44.cell? ⟨go18, (a1 : Int).toNat * 3, none⟩ = some (.int .i64 ((rd_T51 y138 a1).f0)) := hcc18 0 _ rfl; have hx18_1 : w44.cell? ⟨go18, (a1 : Int).toNat * 3 + 1, none⟩ = some (.int .i64 ((rd_T51 y138 a1).f1)) := hcc18 1 _ rfl; have hx18_2 : w44.cell? ⟨go18, (a1 : Int).toNat * 3 + 2, none⟩ = some (.int .i64 ((rd_T51 y138 a1).f2)) := hcc18 2 _ rfl; have hf18_0 : w44.frozen? ⟨go18, (a1 : Int).toNat * 3, none⟩ = false := hfr18 0; have hf18_1 : w44.frozen? ⟨go18, (a1 : Int).toNat * 3 + 1, none⟩ = false := hfr18 1; have hf18_2 : w44.frozen? ⟨go18, (a1 : Int).toNat * 3 + 2, none⟩ = false := hfr18 2; clear hcl18 hcc18 hfr18 hM18; replace p18 := eq_true p18; replace q18 := eq_true q18; have HX46 := jA (show Kd.R k51 51 w44 w.heap.size (fun _ => True) (.slice (some ⟨go18, 0, none⟩) y138.length co45) y138 from (zo HO140)); obtain ⟨ce46, hcl46, hM46, hcc46, hfr46⟩ := Kd.R_elem HX46.out z51 (a1 : Int) (jB za) (by have h_ : (a1 : Int) < ((y138.length : Int) : Int) := jB za; first | exact h_ | (have e_ := (jF HO140.out).1; omega) | simpa using h_); obtain rfl := k51_openM hM46; have HP46 := Kd.R_seg HX46.out (a1 : Int) (jB za) (by have h_ : (a1 : Int) < ((y138.length : Int) : Int) := jB za; first | exact h_ | (have e_ := (jF HO140.out).1; omega) | simpa using h_) (seg := [.int .i64 (wrap64 (((rd_T51 y138 a1).f2) - a3))]) (j := 2) hcl46 hcc46 (show 3 ≤ 3 from by decide) (x' := (⟨(rd_T51 y138 a1).f0, (rd_T51 y138 a1).f1, wrap64 (((rd_T51 y138 a1).f2) - a3)⟩ : S51)) (k51_mkM _ _ _ (⟨(rd_T51 y138 a1).f0, (rd_T51 y138 a1).f1, wrap64 (((rd_T51 y138 a1).f2) - a3)⟩ : S51) ) (fun _ hk => hk); have hx46_2 := hcc46 2 _ rfl; (try simp only [show (k51).sz = 3 from rfl, Nat.mul_one, Nat.add_zero] at hx46_2); have hf46_2 := hfr46 2; (try simp only [show (k51).sz = 3 from rfl, Nat.mul_one, Nat.add_zero] at hf46_2); clear hcl46 hcc46 hfr46 hM46) | ((with_reducible refine gate_store (t := 2) (p := 42) rfl ?_); refine store_event (t := 2) (p := 42) (v := ?vo_w47) (w1 := (w44.setCell ⟨go18, (a1 : Int).toNat * 3 + 2, none⟩ (.int .i64 (wrap64 (((rd_T51 y138 a1).f2) - a3))))) ?hg ?ho ?hn ?hr ?_; (case ho => rfl); (case hg => rfl); (case hn => rfl); (case hr => first | (go_simp; done) | (go_simp; rfl)); intro w47 hw; have hg : w44.grownBy w47 (some go18) := (by rw [hw]; exact HP46.2); have hp_ : Kd.R k51 51 w47 w.heap.size (fun _ => True) (.slice (some ⟨go18, 0, none⟩) y138.length co45) y142 := (by rw [hw, Ny142.out]; exact HP46.1); clear HP46; have n0_ := jA (hp_); have n1_ := jA ((by rw [hw]; exact jQ (HB.out) GB18.out : Below w.heap.size w w47)); clear HO140; clear HB; have HO140 := n0_; have HB := n1_; clear n0_ n1_; clear hg hw hp_; have p143 : 0 ≤ (a2 : Int) := jB za; have q143 : a2 < (y142.length : Int) := (by have h_ : (a2 : Int) < ((y138.length : Int) : Int) := jB za; first | (have e_ := (jF HO140.out).1; omega) | simpa only [Ny142.out, List.length_set] using h_); have ql143 : ((a2 : Int) < ((y138.length : Int) : Int)) = True := eq_true (jB za); obtain ⟨ad143, e143, hx143_0, hx143_1, hx143_2⟩ := at_T51 (jF HO140.out).2.2 a2 p143 q143; obtain rfl : (⟨go18, 0, none⟩ : Addr) = ad143 := (by injection e143); (first | simp only [add_plain] at hx143_0 | simp only [add_at] at hx143_0 | simp only [Addr.add, Nat.zero_add] at hx143_0 | skip); (first | simp only [add_plain] at hx143_1 | simp only [add_at] at hx143_1 | simp only [Addr.add, Nat.zero_add] at hx143_1 | skip); (first | simp only [add_plain] at hx143_2 | simp only [add_at] at hx143_2 | simp only [Addr.add, Nat.zero_add] at hx143_2 | skip); replace p143 := eq_true p143; replace q143 := eq_true q143; have p21 : 0 ≤ (a2 : Int) := jB za; have q21 : (a2 : Int) < ((y138.length : Int) : Int) := jB za; obtain ⟨ce21, hcl21, hM21, hcc21, hfr21⟩ := Kd.R_elem HO140.out z51 (a2 : Int) p21 q21; obtain rfl := k51_openM hM21; have hx21_0 : w47.cell? ⟨go18, (a2 : Int).toNat * 3, none⟩ = some (.int .i64 ((rd_T51 y142 a2).f0)) := hcc21 0 _ rfl; have hx21_1 : w47.cell? ⟨go18, (a2 : Int).toNat * 3 + 1, none⟩ = some (.int .i64 ((rd_T51 y142 a2).f1)) := hcc21 1 _ rfl; have hx21_2 : w47.cell? ⟨go18, (a2 : Int).toNat * 3 + 2, none⟩ = some (.int .i64 ((rd_T51 y142 a2).f2)) := hcc21 2 _ rfl; have hf21_0 : w47.frozen? ⟨go18, (a2 : Int).toNat * 3, none⟩ = false := hfr21 0; have hf21_1 : w47.frozen? ⟨go18, (a2 : Int).toNat * 3 + 1, none⟩ = false := hfr21 1; have hf21_2 : w47.frozen? ⟨go18, (a2 : Int).toNat * 3 + 2, none⟩ = false := hfr21 2; clear hcl21 hcc21 hfr21 hM21; replace p21 := eq_true p21; replace q21 := eq_true q21; have HX48 := jA (show Kd.R k51 51 w47 w.heap.size (fun _ => True) (.slice (some ⟨go18, 0, none⟩) y138.length co45) y142 from (zo HO140)); obtain ⟨ce48, hcl48, hM48, hcc48, hfr48⟩ := Kd.R_elem HX48.out z51 (a2 : Int) (jB za) (by have h_ : (a2 : Int) < ((y138.length : Int) : Int) := jB za; first | exact h_ | (have e_ := (jF HO140.out).1; omega) | simpa using h_); obtain rfl := k51_openM hM48; have HP48 := Kd.R_seg HX48.out (a2 : Int) (jB za) (by have h_ : (a2 : Int) < ((y138.length : Int) : Int) := jB za; first | exact h_ | (have e_ := (jF HO140.out).1; omega) | simpa using h_) (seg := [.int .i64 (wrap64 (((rd_T51 y142 a2).f2) + a3))]) (j := 2) hcl48 hcc48 (show 3 ≤ 3 from by decide) (x' := (⟨(rd_T51 y142 a2).f0, (rd_T51 y142 a2).f1, wrap64 (((rd_T51 y142 a2).f2) + a3)⟩ : S51)) (k51_mkM _ _ _ (⟨(rd_T51 y142 a2).f0, (rd_T51 y142 a2).f1, wrap64 (((rd_T51 y142 a2).f2) + a3)⟩ : S51) ) (fun _ hk => hk); have hx48_2 := hcc48 2 _ rfl; (try simp only [show (k51).sz = 3 from rfl, Nat.mul_one, Nat.add_zero] at hx48_2); have hf48_2 := hfr48 2; (try simp only [show (k51).sz = 3 from rfl, Nat.mul_one, Nat.add_zero] at hf48_2); clear hcl48 hcc48 hfr48 hM48) | ((with_reducible refine gate_store (t := 2) (p := 51) rfl ?_); refine store_event (t := 2) (p := 51) (v := ?vo_w49) (w1 := (w47.setCell ⟨go18, (a2 : Int).toNat * 3 + 2, none⟩ (.int .i64 (wrap64 (((rd_T51 y142 a2).f2) + a3))))) ?hg ?ho ?hn ?hr ?_; (case ho => rfl); (case hg => rfl); (case hn => rfl); (case hr => first | (go_simp; done) | (go_simp; rfl)); intro w49 hw; have hg : w47.grownBy w49 (some go18) := (by rw [hw]; exact HP48.2); have hp_ : Kd.R k51 51 w49 w.heap.size (fun _ => True) (.slice (some ⟨go18, 0, none⟩) y138.length co45) y144 := (by rw [hw, Ny144.out]; exact HP48.1); clear HP48; have n0_ := jA (hp_); have n1_ := jA ((by rw [hw]; exact jQ (HB.out) GB18.out : Below w.heap.size w w49)); clear HO140; clear HB; have HO140 := n0_; have HB := n1_; clear n0_ n1_; clear hg hw hp_) | (go_at_call 22; refine calls_of_args (args' := #[.slice (some ⟨go18, 0, none⟩) y144.length co45]) (by first | (rw [show y144.length = y138.length from (jF HO140.out).1.symm] <;> rfl) | rfl) ?_; (with_reducible refine (impl_AreDepots.calls kj6 _ _ y144 false _ ?side1 ?side2 A31.out).mono ?_); (case side1 => repeat (first | exact (jF HO140.out).2.2 | (with_reducible refine jO ?_ _) | (with_reducible refine jN ?_ _) | (with_reducible refine jS ?_))); (case side2 => rw [show y144.length = y138.length from (jF HO140.out).1.symm]; exact (jF HO140.out).2.1); rintro e w50 ⟨rfl, hb⟩; have n0_ := jA (Kd.R_below (zo HO140) hb); have n1_ := jA (jT (zb0 HB) hb); clear HO140; clear HB; have HO140 := n0_; have HB := n1_; clear n0_ n1_; (try clear hb); (try clear hb2); (try clear hk); (try clear hi)))
            go_ret2
            exact ⟨_, by first | rfl | (simp [errW_none, errW_some] <;> rfl) | (simp [*, errW_none, errW_some] <;> rfl), by first | exact Kd.R_nil _ _ _ _ _ | exact Kd.N_nil _ _ _ _ _ | exact Kd.V_nil _ _ _ _ _ | exact Kd.Q_nil _ _ _ _ _ | exact Kd.S_nil _ _ _ _ _, zb0 HB⟩
         ·rw [if_neg c20] at H
          exact absurd H (by simp)
        ·rw [if_neg c19] at H
         exact absurd H (by simp)
       ·rw [if_neg c17] at H
        exact absurd H (by simp)
      ·rw [if_neg c16] at H
       exact absurd H (by simp)
     ·rw [if_neg c15] at H
      exact absurd H (by simp)
 ·replace c6 := Bool.eq_false_iff.mpr c6
  subst c6
  have H1 : (some (([] : List (S51)), 1)) = some (r1, r2) := by rw [if_neg (show ¬ (false = true) by decide)] at H; exact H
  clear H
  have H := H1
  clear H1
  simp only [jU, jY] at H
  obtain ⟨rfl, rfl⟩ := H
  go_enter Try.func34, Try.ntmps34
  go_wp2_with (first | ((with_reducible refine jH (f := 22) rfl ?_); refine goesL_ (some 12) rfl rfl Try.func22 zr rfl #[.slice A0 l0.length c0] rfl zm ?_; (with_reducible refine (impl_AreDepots.calls k _ _ l0 false _ ?side1 ?side2 A5.out).mono ?_); (case side1 => repeat (first | exact HR0.out | (with_reducible refine jO ?_ _) | (with_reducible refine jN ?_ _) | (with_reducible refine jS ?_))); (case side2 => exact HC0.out); rintro e w51 ⟨rfl, hb⟩; refine ⟨_, rfl, ?_⟩; have n0_ := jA (jT (zb0 HB) hb); clear HB; have HB := n0_; clear n0_; (try clear hb); (try clear hb2); (try clear hk); (try clear hi)))
  go_ret2
  exact ⟨_, by first | rfl | (simp [errW_none, errW_some] <;> rfl) | (simp [*, errW_none, errW_some] <;> rfl), by first | exact Kd.R_nil _ _ _ _ _ | exact Kd.N_nil _ _ _ _ _ | exact Kd.V_nil _ _ _ _ _ | exact Kd.Q_nil _ _ _ _ _ | exact Kd.S_nil _ _ _ _ _, zb0 HB⟩

/-! ### spec_l27Code: function 53 -/
def spec_l27Code.f (a0 : Int) (a1 : Int) : Option (Int) := (spec_l01In.f a0 0 500).bind fun t146 => (if t146 = true then ((spec_l01In.f a1 0 100000000).bind fun t147 => (if t147 = true then (some 0) else (some 2))) else (some 2))
set_option maxHeartbeats 8000000 in
set_option maxRecDepth 100000 in
theorem spec_l27Code.calls (a0 : Int) (a1 : Int) (r : Int) (w : World) (h : spec_l27Code.f a0 a1 = some r) :
  Calls Try.prog 53 #[.int .i64 a0, .int .i64 a1] w fun e w' => e = .returned (.int .i64 r) ∧ Drawn0 w w' := by
 have H : ((spec_l01In.f a0 0 500).bind fun t146 => (if t146 = true then ((spec_l01In.f a1 0 100000000).bind fun t147 => (if t147 = true then (some 0) else (some 2))) else (some 2))) = some r := h
 clear h
 replace H := jD.mp H
 obtain ⟨t146, A30, H⟩ := H
 replace H : (if t146 = true then ((spec_l01In.f a1 0 100000000).bind fun t147 => (if t147 = true then (some 0) else (some 2))) else (some 2)) = some r := H
 have A3 := jA A30
 clear A30
 by_cases c4 : t146 = true
 ·subst c4
  have H1 : ((spec_l01In.f a1 0 100000000).bind fun t147 => (if t147 = true then (some 0) else (some 2))) = some r := by rw [if_pos rfl] at H; exact H
  clear H
  have H := H1
  clear H1
  replace H := jD.mp H
  obtain ⟨t147, A50, H⟩ := H
  replace H : (if t147 = true then (some 0) else (some 2)) = some r := H
  have A5 := jA A50
  clear A50
  by_cases c6 : t147 = true
  ·subst c6
   have H1 : (some 0) = some r := by rw [if_pos rfl] at H; exact H
   clear H
   have H := H1
   clear H1
   obtain rfl := jM H
   go_enter Try.func53, Try.ntmps53
   go_wp2_with (first | ((with_reducible refine jH (f := 54) rfl ?_); refine goesL_ (some 6) rfl rfl Try.func54 zr rfl #[.int .i64 a0, .int .i64 0, .int .i64 500] rfl zm ?_; (with_reducible refine (spec_l01In.calls a0 0 500 true _ A3.out).mono ?_); rintro e w' ⟨rfl, ⟨nd, rfl⟩⟩; refine ⟨_, rfl, ?_⟩) | (go_at_call 54; (with_reducible refine (spec_l01In.calls a1 0 100000000 true _ A5.out).mono ?_); rintro e w' ⟨rfl, ⟨nd, rfl⟩⟩))
   go_ret
   exact ⟨by first | rfl | (simp; done) | (simp [*]; done), by repeat (first | exact Drawn0.refl _ | apply Drawn0.step)⟩
  ·replace c6 := Bool.eq_false_iff.mpr c6
   subst c6
   have H1 : (some 2) = some r := by rw [if_neg (show ¬ (false = true) by decide)] at H; exact H
   clear H
   have H := H1
   clear H1
   obtain rfl := jM H
   go_enter Try.func53, Try.ntmps53
   go_wp2_with (first | ((with_reducible refine jH (f := 54) rfl ?_); refine goesL_ (some 6) rfl rfl Try.func54 zr rfl #[.int .i64 a0, .int .i64 0, .int .i64 500] rfl zm ?_; (with_reducible refine (spec_l01In.calls a0 0 500 true _ A3.out).mono ?_); rintro e w' ⟨rfl, ⟨nd, rfl⟩⟩; refine ⟨_, rfl, ?_⟩) | (go_at_call 54; (with_reducible refine (spec_l01In.calls a1 0 100000000 false _ A5.out).mono ?_); rintro e w' ⟨rfl, ⟨nd, rfl⟩⟩))
   go_ret
   exact ⟨by first | rfl | (simp; done) | (simp [*]; done), by repeat (first | exact Drawn0.refl _ | apply Drawn0.step)⟩
 ·replace c4 := Bool.eq_false_iff.mpr c4
  subst c4
  have H1 : (some 2) = some r := by rw [if_neg (show ¬ (false = true) by decide)] at H; exact H
  clear H
  have H := H1
  clear H1
  obtain rfl := jM H
  go_enter Try.func53, Try.ntmps53
  go_wp2_with (first | ((with_reducible refine jH (f := 54) rfl ?_); refine goesL_ (some 6) rfl rfl Try.func54 zr rfl #[.int .i64 a0, .int .i64 0, .int .i64 500] rfl zm ?_; (with_reducible refine (spec_l01In.calls a0 0 500 false _ A3.out).mono ?_); rintro e w' ⟨rfl, ⟨nd, rfl⟩⟩; refine ⟨_, rfl, ?_⟩))
  go_ret
  exact ⟨by first | rfl | (simp; done) | (simp [*]; done), by repeat (first | exact Drawn0.refl _ | apply Drawn0.step)⟩

/-! ### spec_l27Cube: function 86 -/
def spec_l27Cube.f (a0 : Int) : Option (Int) := some (wrap64 ((wrap64 (a0 * a0)) * a0))
set_option maxHeartbeats 8000000 in
set_option maxRecDepth 100000 in
theorem spec_l27Cube.calls (a0 : Int) (r : Int) (w : World) (h : spec_l27Cube.f a0 = some r) :
  Calls Try.prog 86 #[.int .i64 a0] w fun e w' => e = .returned (.int .i64 r) ∧ Drawn0 w w' := by
 have H : (some (wrap64 ((wrap64 (a0 * a0)) * a0))) = some r := h
 clear h
 obtain rfl := jM H
 go_enter Try.func86, Try.ntmps86
 go_wp2
 go_ret
 exact ⟨by first | rfl | (simp; done) | (simp [*]; done), by repeat (first | exact Drawn0.refl _ | apply Drawn0.step)⟩

/-! ### spec_l27Need: function 58 -/
def spec_l27Need.l0 : Nat → Int → Int → Int → Int → Option (Int)
 | 0, _, _, _, _ => none
 | k + 1, x0, x1, x5, x6 => if (wrap64 (x5 + 1)) < x6 then ((spec_l27Cube.f (wrap64 (Int.tdiv (wrap64 (x5 + x6)) 2))).bind fun t148 => ((spec_l27Cube.f x0).bind fun t149 => (if t148 ≥ (wrap64 (t149 * x1)) then (spec_l27Need.l0 k x0 x1 x5 (wrap64 (Int.tdiv (wrap64 (x5 + x6)) 2))) else (spec_l27Need.l0 k x0 x1 (wrap64 (Int.tdiv (wrap64 (x5 + x6)) 2)) x6)))) else (some x6)
def spec_l27Need.f (k : Nat) (a0 : Int) (a1 : Int) : Option (Int) := spec_l27Need.l0 k a0 a1 (-1) 300000
theorem spec_l27Need.mono_l : ∀ k, (∀ y0 y1 y2 y3, LeO (spec_l27Need.l0 k y0 y1 y2 y3) (spec_l27Need.l0 (k + 1) y0 y1 y2 y3))
 | 0 => fun _ _ _ _ r h => by simp [spec_l27Need.l0] at h
 | k + 1 => by
  have ih0 := spec_l27Need.mono_l k
  ·intro y0 y1 y2 y3
   unfold spec_l27Need.l0
   repeat' first
   | (with_reducible exact ih0 _ _ _ _)
   | (with_reducible exact LeO.refl _)
   | (with_reducible exact LeO.none _)
   | (with_reducible refine LeO.ite ?_ ?_)
   | (with_reducible refine LeO.bind ?_ (fun _ => ?_))
   | exact ih0 _ _ _ _
   | exact LeO.none _
   | refine LeO.ite ?_ ?_
   | refine LeO.bind ?_ (fun _ => ?_)
theorem spec_l27Need.mono : ∀ a0 a1 k, LeO (spec_l27Need.f k a0 a1) (spec_l27Need.f (k + 1) a0 a1) := by
 intro a0 a1 k
 have ih0 := spec_l27Need.mono_l k
 unfold spec_l27Need.f
 repeat' first
   | (with_reducible exact ih0 _ _ _ _)
   | (with_reducible exact LeO.refl _)
   | (with_reducible exact LeO.none _)
   | (with_reducible refine LeO.ite ?_ ?_)
   | (with_reducible refine LeO.bind ?_ (fun _ => ?_))
   | exact ih0 _ _ _ _
   | exact LeO.none _
   | refine LeO.ite ?_ ?_
   | refine LeO.bind ?_ (fun _ => ?_)
set_option maxHeartbeats 8000000 in
set_option maxRecDepth 100000 in
theorem spec_l27Need.calls (k : Nat) (a0 : Int) (a1 : Int) (r : Int) (w : World) (h : spec_l27Need.f k a0 a1 = some r) :
  Calls Try.prog 58 #[.int .i64 a0, .int .i64 a1] w fun e w' => e = .returned (.int .i64 r) ∧ Drawn0 w w' := by
 have H : (spec_l27Need.l0 k a0 a1 (-1) 300000) = some r := h
 clear h
 have H' := jA H
 clear H
 go_enter Try.func58, Try.ntmps58
 go_wp2
 go_loopg [5, 6] k (fun kq v5 v6 w' => ∃ (x5_1 : Int) (x6_1 : Int), v5 = .int .i64 x5_1 ∧ v6 = .int .i64 x6_1 ∧ Aside0 (spec_l27Need.l0 kq a0 a1 x5_1 x6_1 = some r) ∧ Aside0 (kq ≤ k) ∧ Drawn0 w w')
 case atStart => exact ⟨((-1)), (300000), zz, zz, H', ⟨Nat.le_refl _⟩, by repeat (first | exact Drawn0.refl _ | apply Drawn0.step)⟩
 case round =>
  clear H'
  try clear p2
  obtain ⟨x5_1, x6_1, rfl, rfl, HA, HK1, ⟨m1, rfl⟩⟩ := hrel
  cases gk with
  | zero => exact absurd HA.out (by simp [spec_l27Need.l0])
  | succ k1 =>
   have H := HA.out
   clear HA
   simp only [spec_l27Need.l0] at H
   by_cases c3 : (wrap64 (x5_1 + 1)) < x6_1
   ·rw [if_pos c3] at H
    have c3b0 : decide ((wrap64 (x5_1 + 1)) < x6_1) = true := jG c3
    clear c3
    replace H := jD.mp H
    obtain ⟨t148, A40, H⟩ := H
    replace H : ((spec_l27Cube.f a0).bind fun t149 => (if t148 ≥ (wrap64 (t149 * a1)) then (spec_l27Need.l0 k1 a0 a1 x5_1 (wrap64 (Int.tdiv (wrap64 (x5_1 + x6_1)) 2))) else (spec_l27Need.l0 k1 a0 a1 (wrap64 (Int.tdiv (wrap64 (x5_1 + x6_1)) 2)) x6_1))) = some r := H
    have A4 := jA A40
    clear A40
    replace H := jD.mp H
    obtain ⟨t149, A50, H⟩ := H
    replace H : (if t148 ≥ (wrap64 (t149 * a1)) then (spec_l27Need.l0 k1 a0 a1 x5_1 (wrap64 (Int.tdiv (wrap64 (x5_1 + x6_1)) 2))) else (spec_l27Need.l0 k1 a0 a1 (wrap64 (Int.tdiv (wrap64 (x5_1 + x6_1)) 2)) x6_1)) = some r := H
    have A5 := jA A50
    clear A50
    by_cases c6 : t148 ≥ (wrap64 (t149 * a1))
    ·rw [if_pos c6] at H
     have c6b0 : decide ((wrap64 (t149 * a1)) ≤ t148) = true := jG c6
     clear c6
     have H' := jA H
     clear H
     go_wp2_with (first | ((with_reducible refine jH (f := 86) rfl ?_); refine goesL_ (some 17) rfl rfl Try.func86 zr rfl #[.int .i64 (wrap64 (Int.tdiv (wrap64 (x5_1 + x6_1)) 2))] rfl zm ?_; (with_reducible refine (spec_l27Cube.calls (wrap64 (Int.tdiv (wrap64 (x5_1 + x6_1)) 2)) t148 _ A4.out).mono ?_); rintro e w' ⟨rfl, ⟨nd, rfl⟩⟩; refine ⟨_, rfl, ?_⟩) | ((with_reducible refine jH (f := 86) rfl ?_); refine goesL_ (some 19) rfl rfl Try.func86 zr rfl #[.int .i64 a0] rfl zm ?_; (with_reducible refine (spec_l27Cube.calls a0 t149 _ A5.out).mono ?_); rintro e w' ⟨rfl, ⟨nd, rfl⟩⟩; refine ⟨_, rfl, ?_⟩))
     go_roundg k1
     case measure => have := HK1.out; omega
     case rel => exact ⟨(x5_1), (wrap64 (Int.tdiv (wrap64 (x5_1 + x6_1)) 2)), zz, zz, H', ⟨by have := HK1.out; omega⟩, by repeat (first | exact Drawn0.refl _ | apply Drawn0.step)⟩
    ·rw [if_neg c6] at H
     have c6b0 : decide ((wrap64 (t149 * a1)) ≤ t148) = false := jb c6
     clear c6
     have H' := jA H
     clear H
     go_wp2_with (first | ((with_reducible refine jH (f := 86) rfl ?_); refine goesL_ (some 17) rfl rfl Try.func86 zr rfl #[.int .i64 (wrap64 (Int.tdiv (wrap64 (x5_1 + x6_1)) 2))] rfl zm ?_; (with_reducible refine (spec_l27Cube.calls (wrap64 (Int.tdiv (wrap64 (x5_1 + x6_1)) 2)) t148 _ A4.out).mono ?_); rintro e w' ⟨rfl, ⟨nd, rfl⟩⟩; refine ⟨_, rfl, ?_⟩) | ((with_reducible refine jH (f := 86) rfl ?_); refine goesL_ (some 19) rfl rfl Try.func86 zr rfl #[.int .i64 a0] rfl zm ?_; (with_reducible refine (spec_l27Cube.calls a0 t149 _ A5.out).mono ?_); rintro e w' ⟨rfl, ⟨nd, rfl⟩⟩; refine ⟨_, rfl, ?_⟩))
     go_roundg k1
     case measure => have := HK1.out; omega
     case rel => exact ⟨(wrap64 (Int.tdiv (wrap64 (x5_1 + x6_1)) 2)), (x6_1), zz, zz, H', ⟨by have := HK1.out; omega⟩, by repeat (first | exact Drawn0.refl _ | apply Drawn0.step)⟩
   ·rw [if_neg c3] at H
    have c3b0 : decide ((wrap64 (x5_1 + 1)) < x6_1) = false := jb c3
    clear c3
    obtain rfl := jM H
    go_wp2
    go_ret
    exact ⟨by first | rfl | (simp; done) | (simp [*]; done), by repeat (first | exact Drawn0.refl _ | apply Drawn0.step)⟩

/-! ### spec_l27Square: function 71 -/
def spec_l27Square.f (a0_0 : Int) (a0_1 : Int) (a0_2 : Int) (a1 : Int) (a2 : Int) : Option (Int) := some (wrap64 ((wrap64 ((wrap64 (a0_0 - a1)) * (wrap64 (a0_0 - a1)))) + (wrap64 ((wrap64 (a0_1 - a2)) * (wrap64 (a0_1 - a2))))))
set_option maxHeartbeats 8000000 in
set_option maxRecDepth 100000 in
theorem spec_l27Square.calls (a0_0 : Int) (a0_1 : Int) (a0_2 : Int) (a1 : Int) (a2 : Int) (r : Int) (w : World) (h : spec_l27Square.f a0_0 a0_1 a0_2 a1 a2 = some r) :
  Calls Try.prog 71 #[.agg #[.int .i64 a0_0, .int .i64 a0_1, .int .i64 a0_2], .int .i64 a1, .int .i64 a2] w fun e w' => e = .returned (.int .i64 r) ∧ Below w.heap.size w w' := by
 have hu51 := Try.underlying51
 have HB := jA (Below.refl w.heap.size w)
 have H : (some (wrap64 ((wrap64 ((wrap64 (a0_0 - a1)) * (wrap64 (a0_0 - a1)))) + (wrap64 ((wrap64 (a0_1 - a2)) * (wrap64 (a0_1 - a2))))))) = some r := h
 clear h
 obtain rfl := jM H
 go_enter Try.func71, Try.ntmps71
 go_wp2_with (first | ((with_reducible refine gate_dst (N := 3) rfl ?_); refine box_event ?hg (N := 3) ?hd (cs := #[.int .i64 a0_0, .int .i64 a0_1, .int .i64 a0_2]) (t := 51) ?hr ?_; (case hd => rfl); (case hg => rfl); (case hr => first | (go_simp; done) | (go_simp; rfl)); intro gb150 hg w4 hbox hb; have n0_ := jA (jT (zb0 HB) hb); have n1_ := jA (hbox); have n2_ := jA ((by rw [hg]; exact (jW (zb0 HB)) : w.heap.size ≤ gb150)); have n3_ := jA ((by rw [hg]; exact (jW (zb0 HB)) : w.heap.size ≤ gb150)); clear HB; have HB := n0_; have BK150 := n1_; have GW150 := n2_; have GE150 := n3_; clear n0_ n1_ n2_ n3_; clear hb hbox hg; have hcz5_0 : w4.cell? ⟨gb150, 0, none⟩ = some (.int .i64 a0_0) := (jR BK150.out 0).trans rfl; have hcz5_1 : w4.cell? ⟨gb150, 1, none⟩ = some (.int .i64 a0_1) := (jR BK150.out 1).trans rfl; have hcz5_2 : w4.cell? ⟨gb150, 2, none⟩ = some (.int .i64 a0_2) := (jR BK150.out 2).trans rfl; have hfz5_0 := jV BK150.out 0; have hfz5_1 := jV BK150.out 1; have hfz5_2 := jV BK150.out 2))
 go_ret
 exact ⟨by first | rfl | (simp [errW_none, errW_some] <;> rfl) | (simp [*, errW_none, errW_some] <;> rfl), zb1 HB GE150⟩

/-! ### spec_l27Close: function 78 -/
def spec_l27Close.f (k : Nat) (a0_0 : Int) (a0_1 : Int) (a0_2 : Int) (a1_0 : Int) (a1_1 : Int) (a1_2 : Int) (a2 : Int) : Option (Bool) := (spec_l27Need.f k a2 (mx a0_2 a1_2)).bind fun t153 => ((spec_l27Square.f a0_0 a0_1 a0_2 a1_0 a1_1).bind fun t154 => (some (decide (t154 < (wrap64 (t153 * t153))))))
theorem spec_l27Close.mono : ∀ a0 a1 a2 a3 a4 a5 a6 k, LeO (spec_l27Close.f k a0 a1 a2 a3 a4 a5 a6) (spec_l27Close.f (k + 1) a0 a1 a2 a3 a4 a5 a6) := by
 intro a0 a1 a2 a3 a4 a5 a6 k
 unfold spec_l27Close.f
 repeat' first
   | (with_reducible exact spec_l27Need.mono _ _ _)
   | (with_reducible exact LeO.refl _)
   | (with_reducible exact LeO.none _)
   | (with_reducible refine LeO.ite ?_ ?_)
   | (with_reducible refine LeO.bind ?_ (fun _ => ?_))
   | exact spec_l27Need.mono _ _ _
   | exact LeO.none _
   | refine LeO.ite ?_ ?_
   | refine LeO.bind ?_ (fun _ => ?_)
set_option maxHeartbeats 8000000 in
set_option maxRecDepth 100000 in
theorem spec_l27Close.calls (k : Nat) (a0_0 : Int) (a0_1 : Int) (a0_2 : Int) (a1_0 : Int) (a1_1 : Int) (a1_2 : Int) (a2 : Int) (r : Bool) (w : World) (h : spec_l27Close.f k a0_0 a0_1 a0_2 a1_0 a1_1 a1_2 a2 = some r) :
  Calls Try.prog 78 #[.agg #[.int .i64 a0_0, .int .i64 a0_1, .int .i64 a0_2], .agg #[.int .i64 a1_0, .int .i64 a1_1, .int .i64 a1_2], .int .i64 a2] w fun e w' => e = .returned (.bool r) ∧ Below w.heap.size w w' := by
 have hu51 := Try.underlying51
 have HB := jA (Below.refl w.heap.size w)
 have H : ((spec_l27Need.f k a2 (mx a0_2 a1_2)).bind fun t153 => ((spec_l27Square.f a0_0 a0_1 a0_2 a1_0 a1_1).bind fun t154 => (some (decide (t154 < (wrap64 (t153 * t153))))))) = some r := h
 clear h
 obtain ⟨ji4, hji4⟩ : ∃ j_ : Int, (mx a0_2 a1_2) = j_ := ⟨_, rfl⟩
 replace H : ((spec_l27Need.f k a2 (ji4)).bind fun t153 => ((spec_l27Square.f a0_0 a0_1 a0_2 a1_0 a1_1).bind fun t154 => (some (decide (t154 < (wrap64 (t153 * t153))))))) = some r := by first | (rw [hji4] at H; exact H) | (simp only [hji4] at H ⊢; exact H)
 have hji4_ : (if a0_2 < a1_2 then a1_2 else a0_2) = ji4 := hji4
 replace H := jD.mp H
 obtain ⟨t153, A50, H⟩ := H
 replace H : ((spec_l27Square.f a0_0 a0_1 a0_2 a1_0 a1_1).bind fun t154 => (some (decide (t154 < (wrap64 (t153 * t153)))))) = some r := H
 have A5 := jA A50
 clear A50
 replace H := jD.mp H
 obtain ⟨t154, A60, H⟩ := H
 replace H : (some (decide (t154 < (wrap64 (t153 * t153))))) = some r := H
 have A6 := jA A60
 clear A60
 obtain rfl := jM H
 go_enter Try.func78, Try.ntmps78
 go_wp2_with (first | ((with_reducible refine gate_dst (N := 3) rfl ?_); refine box_event ?hg (N := 3) ?hd (cs := #[.int .i64 a0_0, .int .i64 a0_1, .int .i64 a0_2]) (t := 51) ?hr ?_; (case hd => rfl); (case hg => rfl); (case hr => first | (go_simp; done) | (go_simp; rfl)); intro gb151 hg w7 hbox hb; have n0_ := jA (jT (zb0 HB) hb); have n1_ := jA (hbox); have n2_ := jA ((by rw [hg]; exact (jW (zb0 HB)) : w.heap.size ≤ gb151)); have n3_ := jA ((by rw [hg]; exact (jW (zb0 HB)) : w.heap.size ≤ gb151)); clear HB; have HB := n0_; have BK151 := n1_; have GW151 := n2_; have GE151 := n3_; clear n0_ n1_ n2_ n3_; clear hb hbox hg) | ((with_reducible refine gate_dst (N := 4) rfl ?_); refine box_event ?hg (N := 4) ?hd (cs := #[.int .i64 a1_0, .int .i64 a1_1, .int .i64 a1_2]) (t := 51) ?hr ?_; (case hd => rfl); (case hg => rfl); (case hr => first | (go_simp; done) | (go_simp; rfl)); intro gb152 hg w8 hbox hb; have n0_ := jA (blk_below (g := gb151) (o := .cells #[.int .i64 a0_0, .int .i64 a0_1, .int .i64 a0_2] 51 (0, 0)) (zk BK151) hb); have n1_ := jA (jT (zb1 HB GE151) hb); have n2_ := jA (hbox); have n3_ := jA ((by rw [hg]; exact (jW (zb1 HB GE151)) : w.heap.size ≤ gb152)); have n4_ := jA ((by rw [hg]; exact (jW (zb1 HB GE151)) : w.heap.size ≤ gb152)); have n5_ := jA ((by rw [hg]; exact Nat.ne_of_lt (blk_lt (g := gb151) (o := .cells #[.int .i64 a0_0, .int .i64 a0_1, .int .i64 a0_2] 51 (0, 0)) (zk BK151)) : gb151 ≠ gb152)); have n6_ := jA n5_.out.symm; clear BK151; clear HB; have BK151 := n0_; have HB := n1_; have BK152 := n2_; have GW152 := n3_; have GE152 := n4_; have NB151_152 := n5_; have NB152_151 := n6_; clear n0_ n1_ n2_ n3_ n4_ n5_ n6_; clear hb hbox hg; have hnb9 := NB151_152.out; have hnc9 := NB152_151.out; have hcz10_0 : w8.cell? ⟨gb151, 0, none⟩ = some (.int .i64 a0_0) := (jR BK151.out 0).trans rfl; have hcz10_1 : w8.cell? ⟨gb151, 1, none⟩ = some (.int .i64 a0_1) := (jR BK151.out 1).trans rfl; have hcz10_2 : w8.cell? ⟨gb151, 2, none⟩ = some (.int .i64 a0_2) := (jR BK151.out 2).trans rfl; have hfz10_0 := jV BK151.out 0; have hfz10_1 := jV BK151.out 1; have hfz10_2 := jV BK151.out 2; have hcz11_0 : w8.cell? ⟨gb152, 0, none⟩ = some (.int .i64 a1_0) := (jR BK152.out 0).trans rfl; have hcz11_1 : w8.cell? ⟨gb152, 1, none⟩ = some (.int .i64 a1_1) := (jR BK152.out 1).trans rfl; have hcz11_2 : w8.cell? ⟨gb152, 2, none⟩ = some (.int .i64 a1_2) := (jR BK152.out 2).trans rfl; have hfz11_0 := jV BK152.out 0; have hfz11_1 := jV BK152.out 1; have hfz11_2 := jV BK152.out 2) | ((with_reducible refine jH (f := 58) rfl ?_); refine goesL_ (some 14) rfl rfl Try.func58 zr rfl #[.int .i64 a2, .int .i64 ji4] rfl (by (try simp only [List.map_toArray, List.map_cons, List.map_nil]); first | done | (simp only [hji4]; rfl) | rfl | (simp only [List.length_drop, List.length_take]; rfl)) ?_; (with_reducible refine (spec_l27Need.calls k a2 ji4 t153 _ A5.out).mono ?_); rintro e w' ⟨rfl, ⟨nd, rfl⟩⟩; refine ⟨_, rfl, ?_⟩) | ((with_reducible refine jH (f := 71) rfl ?_); refine goesL_ (some 20) rfl rfl Try.func71 zr rfl #[.agg #[.int .i64 a0_0, .int .i64 a0_1, .int .i64 a0_2], .int .i64 a1_0, .int .i64 a1_1] rfl zm ?_; (with_reducible refine (spec_l27Square.calls a0_0 a0_1 a0_2 a1_0 a1_1 t154 _ A6.out).mono ?_); rintro e w12 ⟨rfl, hb⟩; refine ⟨_, rfl, ?_⟩; have n0_ := jA (blk_below (g := gb151) (o := .cells #[.int .i64 a0_0, .int .i64 a0_1, .int .i64 a0_2] 51 (0, 0)) (zk BK151) hb); have n1_ := jA (blk_below (g := gb152) (o := .cells #[.int .i64 a1_0, .int .i64 a1_1, .int .i64 a1_2] 51 (0, 0)) (zk BK152) hb); have n2_ := jA (jT (zb2 HB GE151 GE152) hb); clear BK151; clear BK152; clear HB; have BK151 := n0_; have BK152 := n1_; have HB := n2_; clear n0_ n1_ n2_; (try clear hb); (try clear hb2); (try clear hk); (try clear hi)))
 go_ret
 exact ⟨by first | rfl | (simp [errW_none, errW_some] <;> rfl) | (simp only [← hji4]; first | rfl | (simp [errW_none, errW_some] <;> rfl)) | (simp [*, errW_none, errW_some] <;> rfl), zb2 HB GE151 GE152⟩

end Go.Proofs.Ytmhnkhealidjjaa.PFnDepots
