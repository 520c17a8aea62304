/- Functions and contracts that FnTries reaches (3 of 13). -/
import Derived.Test.YthnpffomoaeeoaaQFnTriesx1
namespace Go.Proofs.Ythnpffomoaeeoaa.PFnTries
open Go.RowKit Go.Proofs.YthnpffomoaeeoaaW.PrintWords Go.Proofs.YthnpffomoaeeoaaW.PrintLast Go.Proofs.YthnpffomoaeeoaaW.PrintMore
attribute [local go_sem] max2_int min2_int max_two min_two max_three min_three max_four min_four   -- for this text's walks alone
set_option linter.unusedVariables false
set_option linter.unusedSimpArgs false

/-! ### impl_cueAsked: function 56 -/
def impl_cueAsked.f (k : Nat) (l0 : List (S36)) (a1 : Int) : Option (Int) := (impl_AreTries.f k l0).bind fun t135 => (if t135 = true then ((impl_isCue.f a1).bind fun t136 => (if t136 = true then (some 0) else (some 2))) else (some 1))
theorem impl_cueAsked.mono : ∀ a0 a1 k, LeO (impl_cueAsked.f k a0 a1) (impl_cueAsked.f (k + 1) a0 a1) := by
 intro a0 a1 k
 unfold impl_cueAsked.f
 repeat' first
   | (with_reducible exact impl_AreTries.mono _ _)
   | (with_reducible exact LeO.refl _)
   | (with_reducible exact LeO.none _)
   | (with_reducible refine LeO.ite ?_ ?_)
   | (with_reducible refine LeO.bind ?_ (fun _ => ?_))
   | exact impl_AreTries.mono _ _
   | exact LeO.none _
   | refine LeO.ite ?_ ?_
   | refine LeO.bind ?_ (fun _ => ?_)
set_option maxHeartbeats 8000000 in
set_option maxRecDepth 100000 in
theorem impl_cueAsked.calls (k : Nat) (A0 : Option Addr) (c0 : Nat) (l0 : List (S36)) (a1 : Int) (r : Int) (w : World) (hr0 : Kd.C k36 w A0 l0.length l0) (hc0 : l0.length ≤ c0) (h : impl_cueAsked.f k l0 a1 = some r) :
  Calls Try.prog 56 #[.slice A0 l0.length c0, .int .i64 a1] w fun e w' => e = .returned (.int .i64 r) ∧ Below w.heap.size w w' := by
 have HR0 := jA hr0
 have HC0 := jA hc0
 clear hr0 hc0
 have HB := jA (Below.refl w.heap.size w)
 have H : ((impl_AreTries.f k l0).bind fun t135 => (if t135 = true then ((impl_isCue.f a1).bind fun t136 => (if t136 = true then (some 0) else (some 2))) else (some 1))) = some r := h
 clear h
 replace H := jG.mp H
 obtain ⟨t135, A30, H⟩ := H
 replace H : (if t135 = true then ((impl_isCue.f a1).bind fun t136 => (if t136 = true then (some 0) else (some 2))) else (some 1)) = some r := H
 have A3 := jA A30
 clear A30
 by_cases c4 : t135 = true
 ·subst c4
  have H1 : ((impl_isCue.f a1).bind fun t136 => (if t136 = true then (some 0) else (some 2))) = some r := by rw [if_pos rfl] at H; exact H
  clear H
  have H := H1
  clear H1
  replace H := jG.mp H
  obtain ⟨t136, A50, H⟩ := H
  replace H : (if t136 = true then (some 0) else (some 2)) = some r := H
  have A5 := jA A50
  clear A50
  by_cases c6 : t136 = true
  ·subst c6
   have H1 : (some 0) = some r := by rw [if_pos rfl] at H; exact H
   clear H
   have H := H1
   clear H1
   obtain rfl := je H
   go_enter Try.func56, Try.ntmps56
   go_wp2_with (first | ((with_reducible refine jU (f := 16) rfl ?_); refine goesL_ (some 6) rfl rfl Try.func16 zr rfl #[.slice A0 l0.length c0] rfl zm ?_; (with_reducible refine (impl_AreTries.calls k _ _ l0 true _ ?side1 ?side2 A3.out).mono ?_); (case side1 => repeat (first | exact HR0.out | (with_reducible refine jN ?_ _) | (with_reducible refine jM ?_ _) | (with_reducible refine jT ?_))); (case side2 => exact HC0.out); rintro e w7 ⟨rfl, hb⟩; refine ⟨_, rfl, ?_⟩; have n0_ := jA (jH (zb0 HB) hb); clear HB; have HB := n0_; clear n0_; (try clear hb); (try clear hb2); (try clear hk); (try clear hi)) | ((with_reducible refine jU (f := 51) rfl ?_); refine goesL_ (some 9) rfl rfl Try.func51 zr rfl #[.int .i64 a1] rfl zm ?_; (with_reducible refine (impl_isCue.calls a1 true _ A5.out).mono ?_); rintro e w' ⟨rfl, ⟨nd, rfl⟩⟩; refine ⟨_, rfl, ?_⟩))
   go_ret
   exact ⟨by first | rfl | (simp [errW_none, errW_some] <;> rfl) | (simp [*, errW_none, errW_some] <;> rfl), zb0 HB⟩
  ·replace c6 := Bool.eq_false_iff.mpr c6
   subst c6
   have H1 : (some 2) = some r := by rw [if_neg (show ¬ (false = true) by decide)] at H; exact H
   clear H
   have H := H1
   clear H1
   obtain rfl := je H
   go_enter Try.func56, Try.ntmps56
   go_wp2_with (first | ((with_reducible refine jU (f := 16) rfl ?_); refine goesL_ (some 6) rfl rfl Try.func16 zr rfl #[.slice A0 l0.length c0] rfl zm ?_; (with_reducible refine (impl_AreTries.calls k _ _ l0 true _ ?side1 ?side2 A3.out).mono ?_); (case side1 => repeat (first | exact HR0.out | (with_reducible refine jN ?_ _) | (with_reducible refine jM ?_ _) | (with_reducible refine jT ?_))); (case side2 => exact HC0.out); rintro e w8 ⟨rfl, hb⟩; refine ⟨_, rfl, ?_⟩; have n0_ := jA (jH (zb0 HB) hb); clear HB; have HB := n0_; clear n0_; (try clear hb); (try clear hb2); (try clear hk); (try clear hi)) | ((with_reducible refine jU (f := 51) rfl ?_); refine goesL_ (some 9) rfl rfl Try.func51 zr rfl #[.int .i64 a1] rfl zm ?_; (with_reducible refine (impl_isCue.calls a1 false _ A5.out).mono ?_); rintro e w' ⟨rfl, ⟨nd, rfl⟩⟩; refine ⟨_, rfl, ?_⟩))
   go_ret
   exact ⟨by first | rfl | (simp [errW_none, errW_some] <;> rfl) | (simp [*, errW_none, errW_some] <;> rfl), zb0 HB⟩
 ·replace c4 := Bool.eq_false_iff.mpr c4
  subst c4
  have H1 : (some 1) = some r := by rw [if_neg (show ¬ (false = true) by decide)] at H; exact H
  clear H
  have H := H1
  clear H1
  obtain rfl := je H
  go_enter Try.func56, Try.ntmps56
  go_wp2_with (first | ((with_reducible refine jU (f := 16) rfl ?_); refine goesL_ (some 6) rfl rfl Try.func16 zr rfl #[.slice A0 l0.length c0] rfl zm ?_; (with_reducible refine (impl_AreTries.calls k _ _ l0 false _ ?side1 ?side2 A3.out).mono ?_); (case side1 => repeat (first | exact HR0.out | (with_reducible refine jN ?_ _) | (with_reducible refine jM ?_ _) | (with_reducible refine jT ?_))); (case side2 => exact HC0.out); rintro e w9 ⟨rfl, hb⟩; refine ⟨_, rfl, ?_⟩; have n0_ := jA (jH (zb0 HB) hb); clear HB; have HB := n0_; clear n0_; (try clear hb); (try clear hb2); (try clear hk); (try clear hi)))
  go_ret
  exact ⟨by first | rfl | (simp [errW_none, errW_some] <;> rfl) | (simp [*, errW_none, errW_some] <;> rfl), zb0 HB⟩

/-! ### impl_CueState: function 21 -/
def impl_CueState.f (k : Nat) (l0 : List (S36)) (a1 : Int) : Option (Int × Int) := (impl_cueAsked.f k l0 a1).bind fun t137 => (if t137 = 0 then ((impl_cueState.f k l0 a1).bind fun t138 => (some (t138, 0))) else (some (0, t137)))
theorem impl_CueState.mono : ∀ a0 a1 k, LeO (impl_CueState.f k a0 a1) (impl_CueState.f (k + 1) a0 a1) := by
 intro a0 a1 k
 unfold impl_CueState.f
 repeat' first
   | (with_reducible exact impl_cueAsked.mono _ _ _)
   | (with_reducible exact impl_cueState.mono _ _ _)
   | (with_reducible exact LeO.refl _)
   | (with_reducible exact LeO.none _)
   | (with_reducible refine LeO.ite ?_ ?_)
   | (with_reducible refine LeO.bind ?_ (fun _ => ?_))
   | exact impl_cueAsked.mono _ _ _
   | exact impl_cueState.mono _ _ _
   | exact LeO.none _
   | refine LeO.ite ?_ ?_
   | refine LeO.bind ?_ (fun _ => ?_)
set_option maxHeartbeats 8000000 in
set_option maxRecDepth 100000 in
theorem impl_CueState.calls (k : Nat) (A0 : Option Addr) (c0 : Nat) (l0 : List (S36)) (a1 : Int) (r1 : Int) (r2 : Int) (w : World) (hr0 : Kd.C k36 w A0 l0.length l0) (hc0 : l0.length ≤ c0) (h : impl_CueState.f k l0 a1 = some (r1, r2)) :
  Calls Try.prog 21 #[.slice A0 l0.length c0, .int .i64 a1] w fun e w' => e = .returned (.tuple #[.int .i64 r1, .int .i64 r2]) ∧ Below w.heap.size w w' := by
 have HR0 := jA hr0
 have HC0 := jA hc0
 clear hr0 hc0
 have HB := jA (Below.refl w.heap.size w)
 have H : ((impl_cueAsked.f k l0 a1).bind fun t137 => (if t137 = 0 then ((impl_cueState.f k l0 a1).bind fun t138 => (some (t138, 0))) else (some (0, t137)))) = some (r1, r2) := h
 clear h
 replace H := jG.mp H
 obtain ⟨t137, A30, H⟩ := H
 replace H : (if t137 = 0 then ((impl_cueState.f k l0 a1).bind fun t138 => (some (t138, 0))) else (some (0, t137))) = some (r1, r2) := H
 have A3 := jA A30
 clear A30
 by_cases c4 : t137 = 0
 ·rw [if_pos c4] at H
  have c4b0 : (t137 == 0) = true := beq_iff_eq.mpr c4
  have c4b1 : (t137 != 0) = false := bne_eq_false_iff_eq.mpr c4
  clear c4
  replace H := jG.mp H
  obtain ⟨t138, A50, H⟩ := H
  replace H : (some (t138, 0)) = some (r1, r2) := H
  have A5 := jA A50
  clear A50
  simp only [jf, jh] at H
  obtain ⟨rfl, rfl⟩ := H
  go_enter Try.func21, Try.ntmps21
  go_wp2_with (first | ((with_reducible refine jU (f := 56) rfl ?_); refine goesL_ (some 9) rfl rfl Try.func56 zr rfl #[.slice A0 l0.length c0, .int .i64 a1] rfl zm ?_; (with_reducible refine (impl_cueAsked.calls k _ _ l0 a1 t137 _ ?side1 ?side2 A3.out).mono ?_); (case side1 => repeat (first | exact HR0.out | (with_reducible refine jN ?_ _) | (with_reducible refine jM ?_ _) | (with_reducible refine jT ?_))); (case side2 => exact HC0.out); rintro e w6 ⟨rfl, hb⟩; refine ⟨_, rfl, ?_⟩; have n0_ := jA (jH (zb0 HB) hb); clear HB; have HB := n0_; clear n0_; (try clear hb); (try clear hb2); (try clear hk); (try clear hi)) | ((with_reducible refine jU (f := 53) rfl ?_); refine goesL_ (some 15) rfl rfl Try.func53 zr rfl #[.slice A0 l0.length c0, .int .i64 a1] rfl zm ?_; (with_reducible refine (impl_cueState.calls k _ _ l0 a1 t138 _ ?side1 ?side2 A5.out).mono ?_); (case side1 => exact zs HR0 HB); (case side2 => exact HC0.out); rintro e w7 ⟨rfl, hb⟩; refine ⟨_, rfl, ?_⟩; have n0_ := jA (jH (zb0 HB) hb); clear HB; have HB := n0_; clear n0_; (try clear hb); (try clear hb2); (try clear hk); (try clear hi)))
  go_ret2
  exact ⟨by first | rfl | (simp [errW_none, errW_some] <;> rfl) | (simp [*, errW_none, errW_some] <;> rfl), zb0 HB⟩
 ·rw [if_neg c4] at H
  have c4b0 : (t137 == 0) = false := beq_eq_false_iff_ne.mpr c4
  have c4b1 : (t137 != 0) = true := bne_iff_ne.mpr c4
  simp only [jf, jh] at H
  obtain ⟨rfl, rfl⟩ := H
  go_enter Try.func21, Try.ntmps21
  go_wp2_with (first | ((with_reducible refine jU (f := 56) rfl ?_); refine goesL_ (some 9) rfl rfl Try.func56 zr rfl #[.slice A0 l0.length c0, .int .i64 a1] rfl zm ?_; (with_reducible refine (impl_cueAsked.calls k _ _ l0 a1 t137 _ ?side1 ?side2 A3.out).mono ?_); (case side1 => repeat (first | exact HR0.out | (with_reducible refine jN ?_ _) | (with_reducible refine jM ?_ _) | (with_reducible refine jT ?_))); (case side2 => exact HC0.out); rintro e w8 ⟨rfl, hb⟩; refine ⟨_, rfl, ?_⟩; have n0_ := jA (jH (zb0 HB) hb); clear HB; have HB := n0_; clear n0_; (try clear hb); (try clear hb2); (try clear hk); (try clear hi)))
  go_ret2
  exact ⟨by first | rfl | (simp [errW_none, errW_some] <;> rfl) | (simp [*, errW_none, errW_some] <;> rfl), zb0 HB⟩

/-! ### spec_l01In: function 47 -/
def spec_l01In.f (a0 : Int) (a1 : Int) (a2 : Int) : Option (Bool) := if a0 ≥ a1 then (some (decide (a0 ≤ a2))) else (some false)
set_option maxHeartbeats 8000000 in
set_option maxRecDepth 100000 in
theorem spec_l01In.calls (a0 : Int) (a1 : Int) (a2 : Int) (r : Bool) (w : World) (h : spec_l01In.f a0 a1 a2 = some r) :
  Calls Try.prog 47 #[.int .i64 a0, .int .i64 a1, .int .i64 a2] w fun e w' => e = .returned (.bool r) ∧ Drawn0 w w' := by
 have H : (if a0 ≥ a1 then (some (decide (a0 ≤ a2))) else (some false)) = some r := h
 clear h
 by_cases c4 : a0 ≥ a1
 ·rw [if_pos c4] at H
  have c4b0 : decide (a1 ≤ a0) = true := jZ c4
  clear c4
  obtain rfl := je H
  go_enter Try.func47, Try.ntmps47
  go_wp2
  go_ret
  exact ⟨by first | rfl | (simp; done) | (simp [*]; done), by repeat (first | exact Drawn0.refl _ | apply Drawn0.step)⟩
 ·rw [if_neg c4] at H
  have c4b0 : decide (a1 ≤ a0) = false := jg c4
  clear c4
  obtain rfl := je H
  go_enter Try.func47, Try.ntmps47
  go_wp2
  go_ret
  exact ⟨by first | rfl | (simp; done) | (simp [*]; done), by repeat (first | exact Drawn0.refl _ | apply Drawn0.step)⟩

/-! ### spec_l24Of: function 48 -/
def spec_l24Of.l0 : Nat → List (S36) → Int → List Int → Bool → Int → Option (List Int × Bool)
 | 0, _, _, _, _, _ => none
 | k + 1, x0, x1, x6, x7, x8 => if x8 < (x0.length : Int) then (if 0 ≤ x8 then (if ((rd_T36 x0 x8).f0) = x1 then (if x6.length < 17592186044416 then (spec_l24Of.l0 k x0 x1 (x6 ++ [(rd_T36 x0 x8).f1]) ((rd_T36 x0 x8).f2) (wrap64 (x8 + 1))) else (none)) else (spec_l24Of.l0 k x0 x1 x6 x7 (wrap64 (x8 + 1)))) else (none)) else (some (x6, x7))
def spec_l24Of.f (k : Nat) (l0 : List (S36)) (a1 : Int) : Option (List Int × Bool) := spec_l24Of.l0 k l0 a1 (([] : List Int)) false 0
theorem spec_l24Of.mono_l : ∀ k, (∀ y0 y1 y2 y3 y4, LeO (spec_l24Of.l0 k y0 y1 y2 y3 y4) (spec_l24Of.l0 (k + 1) y0 y1 y2 y3 y4))
 | 0 => fun _ _ _ _ _ r h => by simp [spec_l24Of.l0] at h
 | k + 1 => by
  have ih0 := spec_l24Of.mono_l k
  ·intro y0 y1 y2 y3 y4
   unfold spec_l24Of.l0
   repeat' first
   | (with_reducible exact ih0 _ _ _ _ _)
   | (with_reducible exact LeO.refl _)
   | (with_reducible exact LeO.none _)
   | (with_reducible refine LeO.ite ?_ ?_)
   | (with_reducible refine LeO.bind ?_ (fun _ => ?_))
   | exact ih0 _ _ _ _ _
   | exact LeO.none _
   | refine LeO.ite ?_ ?_
   | refine LeO.bind ?_ (fun _ => ?_)
theorem spec_l24Of.mono : ∀ a0 a1 k, LeO (spec_l24Of.f k a0 a1) (spec_l24Of.f (k + 1) a0 a1) := by
 intro a0 a1 k
 have ih0 := spec_l24Of.mono_l k
 unfold spec_l24Of.f
 repeat' first
   | (with_reducible exact ih0 _ _ _ _ _)
   | (with_reducible exact LeO.refl _)
   | (with_reducible exact LeO.none _)
   | (with_reducible refine LeO.ite ?_ ?_)
   | (with_reducible refine LeO.bind ?_ (fun _ => ?_))
   | exact ih0 _ _ _ _ _
   | exact LeO.none _
   | refine LeO.ite ?_ ?_
   | refine LeO.bind ?_ (fun _ => ?_)
set_option maxHeartbeats 8000000 in
set_option maxRecDepth 100000 in
theorem spec_l24Of.calls (k : Nat) (A0 : Option Addr) (c0 : Nat) (l0 : List (S36)) (a1 : Int) (r1 : List Int) (r2 : Bool) (w : World) (hr0 : Kd.C k36 w A0 l0.length l0) (hc0 : l0.length ≤ c0) (h : spec_l24Of.f k l0 a1 = some (r1, r2)) :
  Calls Try.prog 48 #[.slice A0 l0.length c0, .int .i64 a1] w fun e w' => ∃ v0_ : Value, e = .returned (.tuple #[v0_, .bool r2]) ∧ Kd.R (Kd.int .i64) 2 w' w.heap.size (fun _ => True) v0_ r1 ∧ Below w.heap.size w w' := by
 have HR0 := jA hr0
 have HC0 := jA hc0
 clear hr0 hc0
 have HB := jA (Below.refl w.heap.size w)
 have H : (spec_l24Of.l0 k l0 a1 (([] : List Int)) false 0) = some (r1, r2) := h
 clear h
 obtain ⟨y139, hy139⟩ : ∃ y_ : List Int, y_ = (([] : List Int)) := ⟨_, rfl⟩
 replace H : (spec_l24Of.l0 k l0 a1 y139 false 0) = some (r1, r2) := by first | (rw [hy139]; with_reducible exact H) | (have H2_ := (Option.bind_some _ _).symm.trans H; rw [hy139]; with_reducible exact H2_) | (have H2_ := (Option.bind_some _ _).symm.trans H; with_reducible exact H2_) | with_reducible exact H | (rw [hy139]; exact H) | exact H
 have Ny139 := jA hy139
 clear hy139
 have H' := jA H
 clear H
 go_enter Try.func48, Try.ntmps48
 go_wp2_with (first | ((with_reducible refine gate_dst (N := 9) rfl ?_); refine Kd.R_lit (Kd.int .i64) _ 2 ?hg (N := 9) ?hd (xs := ([] : List Int)) (inner := []) (ok := fun _ => True) (okp := fun _ => True) ?hr ?hp (fun _ hk => hk) trivial (Below.refl _ _) (Nat.le_refl _) (by simp) ?_; (case hd => rfl); (case hg => rfl); (case hr => first | (go_simp; done) | (go_simp; rfl)); (case hp => exact (Reps.none _ _)); intro v140 w3 ho4 hb hg_ hnew_; clear hg_ hnew_; (first | rw [← Ny139.out] at ho4 | (simp only [Int.reduceToNat] at ho4; rw [← Ny139.out] at ho4)); have n0_ := jA (jc ho4 (jP (zb0 HB))); have n1_ := jA (jH (zb0 HB) hb); clear HB; have HO141 := n0_; have HB := n1_; clear n0_ n1_; clear hb ho4))
 go_loopg [6, 7, 8] k (fun kq v6 v7 v8 w' => ∃ (x6_1 : List Int) (x7_1 : Bool) (x8_1 : Int), v7 = .bool x7_1 ∧ v8 = .int .i64 x8_1 ∧ Aside0 (spec_l24Of.l0 kq l0 a1 x6_1 x7_1 x8_1 = some (r1, r2)) ∧ Aside0 (kq ≤ k) ∧ Aside0 (Kd.R (Kd.int .i64) 2 w' w.heap.size (fun _ => True) v6 x6_1) ∧ Aside0 (Below w.heap.size w w'))
 case atStart => exact ⟨(y139), (false), (0), zz, zz, H', ⟨Nat.le_refl _⟩, ⟨by (with_reducible repeat (first | apply jR | apply jQ | apply jS)); exact HO141.out⟩, ⟨zb0 HB⟩⟩
 case round =>
  clear H'
  try clear p2
  try clear c4
  obtain ⟨x6_1, x7_1, x8_1, rfl, rfl, HA, HK1, HO_6, HB⟩ := hrel
  cases gk with
  | zero => exact absurd HA.out (by simp [spec_l24Of.l0])
  | succ k1 =>
   have H := HA.out
   clear HA
   simp only [spec_l24Of.l0] at H
   by_cases c5 : x8_1 < (l0.length : Int)
   ·rw [if_pos c5] at H
    have c5b0 : decide (x8_1 < (l0.length : Int)) = true := jZ c5
    clear c5
    by_cases c6 : 0 ≤ x8_1
    ·rw [if_pos c6] at H
     have c6b0 : decide (0 ≤ x8_1) = true := jZ c6
     clear c6
     by_cases c7 : ((rd_T36 l0 x8_1).f0) = a1
     ·rw [if_pos c7] at H
      have c7b0 : (((rd_T36 l0 x8_1).f0) == a1) = true := beq_iff_eq.mpr c7
      have c7b1 : (((rd_T36 l0 x8_1).f0) != a1) = false := bne_eq_false_iff_eq.mpr c7
      clear c7
      by_cases c8 : x6_1.length < 17592186044416
      ·rw [if_pos c8] at H
       have LMc8 := jA c8
       clear c8
       obtain ⟨y144, hy144⟩ : ∃ y_ : List Int, y_ = (x6_1 ++ [(rd_T36 l0 x8_1).f1]) := ⟨_, rfl⟩
       replace H : (spec_l24Of.l0 k1 l0 a1 y144 ((rd_T36 l0 x8_1).f2) (wrap64 (x8_1 + 1))) = some (r1, r2) := by first | (rw [hy144]; with_reducible exact H) | (have H2_ := (Option.bind_some _ _).symm.trans H; rw [hy144]; with_reducible exact H2_) | (have H2_ := (Option.bind_some _ _).symm.trans H; with_reducible exact H2_) | with_reducible exact H | (rw [hy144]; exact H) | exact H
       have Ny144 := jA hy144
       clear hy144
       have H' := jA H
       clear H
       have p142 : 0 ≤ (x8_1 : Int) := jI za
       have q142 : x8_1 < (l0.length : Int) := jI za
       obtain ⟨ad142, e142, hx142_0, hx142_1, hx142_2⟩ := at_T36 HR0.out x8_1 p142 q142
       cases e142
       replace hx142_0 := (HB.out.cell (ja w _ hx142_0)).trans hx142_0
       replace hx142_1 := (HB.out.cell (ja w _ hx142_1)).trans hx142_1
       replace hx142_2 := (HB.out.cell (ja w _ hx142_2)).trans hx142_2
       replace p142 := eq_true p142
       replace q142 := eq_true q142
       have p143 : 0 ≤ (x8_1 : Int) := jI za
       have q143 : x8_1 < (l0.length : Int) := jI za
       obtain ⟨ad143, e143, hx143_0, hx143_1, hx143_2⟩ := at_T36 HR0.out x8_1 p143 q143
       obtain rfl : ad142 = ad143 := (by injection e143)
       replace hx143_0 := (HB.out.cell (ja w _ hx143_0)).trans hx143_0
       replace hx143_1 := (HB.out.cell (ja w _ hx143_1)).trans hx143_1
       replace hx143_2 := (HB.out.cell (ja w _ hx143_2)).trans hx143_2
       replace p143 := eq_true p143
       replace q143 := eq_true q143
       go_wp2_with (first | ((with_reducible refine gate_builtin (b := .append) (xs := #[.tmp 23, .tmp 29]) rfl ?_); at_builtin; refine Kd.R_append (Kd.int .i64) (w0 := w) w.heap.size rfl (.tmp 23) (.tmp 29) 40 2 (.int .i64 0) 8 rfl Try.underlying40 info2 rfl (by decide) (by omega) u6 x6_1 ((rd_T36 l0 x8_1).f1) [.int .i64 ((rd_T36 l0 x8_1).f1)] (fun _ => True) (fun _ => False) rfl rfl ?aP (fun _ hk => hk.elim) ?aF ?aO ?aB ?aS ?aL ?_; (case aP => exact rfl); (case aB => exact (zb0 HB)); (case aF => exact (fun _ _ => trivial)); (case aO => exact (zo HO_6)); (case aS => exact (jP (zb0 HB))); (case aL => have := LMc8.out; omega); intro v145 w9 ho hb hg hat; rw [← Ny144.out] at ho; have n0_ := jA (hb); have n1_ := jA (ho); clear HB; clear HO_6; have HB := n0_; have HO146 := n1_; clear n0_ n1_; clear ho hb hg hat; have p147 : 0 ≤ (x8_1 : Int) := jI za; have q147 : x8_1 < (l0.length : Int) := jI za; obtain ⟨ad147, e147, hx147_0, hx147_1, hx147_2⟩ := at_T36 HR0.out x8_1 p147 q147; obtain rfl : ad142 = ad147 := (by injection e147); replace hx147_0 := (HB.out.cell (ja w _ hx147_0)).trans hx147_0; replace hx147_1 := (HB.out.cell (ja w _ hx147_1)).trans hx147_1; replace hx147_2 := (HB.out.cell (ja w _ hx147_2)).trans hx147_2; replace p147 := eq_true p147; replace q147 := eq_true q147))
       go_roundg k1
       case measure => have := HK1.out; omega
       case rel => exact ⟨(y144), ((rd_T36 l0 x8_1).f2), (wrap64 (x8_1 + 1)), zz, zz, H', ⟨by have := HK1.out; omega⟩, ⟨by (with_reducible repeat (first | apply jR | apply jQ | apply jS)); exact HO146.out⟩, ⟨zb0 HB⟩⟩
      ·rw [if_neg c8] at H
       exact absurd H (by simp)
     ·rw [if_neg c7] at H
      have c7b0 : (((rd_T36 l0 x8_1).f0) == a1) = false := beq_eq_false_iff_ne.mpr c7
      have c7b1 : (((rd_T36 l0 x8_1).f0) != a1) = true := bne_iff_ne.mpr c7
      have H' := jA H
      clear H
      have p142 : 0 ≤ (x8_1 : Int) := jI za
      have q142 : x8_1 < (l0.length : Int) := jI za
      obtain ⟨ad142, e142, hx142_0, hx142_1, hx142_2⟩ := at_T36 HR0.out x8_1 p142 q142
      cases e142
      replace hx142_0 := (HB.out.cell (ja w _ hx142_0)).trans hx142_0
      replace hx142_1 := (HB.out.cell (ja w _ hx142_1)).trans hx142_1
      replace hx142_2 := (HB.out.cell (ja w _ hx142_2)).trans hx142_2
      replace p142 := eq_true p142
      replace q142 := eq_true q142
      go_wp2
      go_roundg k1
      case measure => have := HK1.out; omega
      case rel => exact ⟨(x6_1), (x7_1), (wrap64 (x8_1 + 1)), zz, zz, H', ⟨by have := HK1.out; omega⟩, ⟨by (with_reducible repeat (first | apply jR | apply jQ | apply jS)); exact HO_6.out⟩, ⟨zb0 HB⟩⟩
    ·rw [if_neg c6] at H
     exact absurd H (by simp)
   ·rw [if_neg c5] at H
    have c5b0 : decide (x8_1 < (l0.length : Int)) = false := jg c5
    clear c5
    simp only [jf, jh] at H
    obtain ⟨rfl, rfl⟩ := H
    go_wp2
    go_ret2
    exact ⟨_, by first | rfl | (simp [errW_none, errW_some] <;> rfl) | (simp [*, errW_none, errW_some] <;> rfl), by (with_reducible repeat (first | apply jR | apply jQ | apply jS)); exact HO_6.out, zb0 HB⟩

end Go.Proofs.Ythnpffomoaeeoaa.PFnTries
