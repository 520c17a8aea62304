/- Functions and contracts that FnReached reaches (19 of 22). -/
import Derived.Test.YthieppjmjgijfaaQFnReachedx17
namespace Go.Proofs.Ythieppjmjgijfaa.PFnReached
open Go.RowKit Go.Proofs.YthieppjmjgijfaaW.PrintWords Go.Proofs.YthieppjmjgijfaaW.PrintLast Go.Proofs.YthieppjmjgijfaaW.PrintMore
attribute [local go_sem] max2_int min2_int max_two min_two max_three min_three max_four min_four   -- for this text's walks alone
set_option linter.unusedVariables false
set_option linter.unusedSimpArgs false

/-! ### spec_ShortestInputs: function 35 -/
mutual
def spec_ShortestInputs.j0 : Nat → List Int → Int → Int → Bool → Bool → Bool → Bool → Bool → Bool → Int → Option (List Int × Int)
 | 0, _, _, _, _, _, _, _, _, _, _ => none
 | k + 1, x1, x2, x8, x23, x594000, x594001, x594002, x594003, x594004, x594005 => if x23 = true then (spec_ShortestInputs.j1 k x1 x2 2 x594000 x594001 x594002 x594003 x594004 x594005) else (spec_ShortestInputs.j1 k x1 x2 x8 x594000 x594001 x594002 x594003 x594004 x594005)
def spec_ShortestInputs.j1 : Nat → List Int → Int → Int → Bool → Bool → Bool → Bool → Bool → Int → Option (List Int × Int)
 | 0, _, _, _, _, _, _, _, _, _ => none
 | k + 1, x1, x2, x8, x594000, x594001, x594002, x594003, x594004, x594005 => if x8 = 0 then ((spec_l25Number.f k x594000 x594001 x594002 x594003 x594004 x594005).bind fun t596 => (spec_ShortestInputs.l0 k x1 x2 (([t596] : List Int)) (([(([] : List Int))] : List (List Int))) 0)) else (some (([] : List Int), x8))
def spec_ShortestInputs.l0 : Nat → List Int → Int → List Int → List (List Int) → Int → Option (List Int × Int)
 | 0, _, _, _, _, _ => none
 | k + 1, x1, x2, x9, x10, x11 => if x11 < (x9.length : Int) then (if 0 ≤ x11 then (if (rd x9 x11) = x2 then (if x11 < (x10.length : Int) then (some (rd_L3 x10 x11, 0)) else (none)) else ((spec_l25Next.f k (rd x9 x11) x1).bind fun t609 => (spec_ShortestInputs.l1 k x1 x2 x9 x10 x11 t609 0))) else (none)) else (some (([] : List Int), 4))
def spec_ShortestInputs.l1 : Nat → List Int → Int → List Int → List (List Int) → Int → List Int → Int → Option (List Int × Int)
 | 0, _, _, _, _, _, _, _ => none
 | k + 1, x1, x2, x9, x10, x11, x12, x13 => if x13 < (x12.length : Int) then (if 0 ≤ x13 then (if (rd x12 x13) ≥ 0 then ((spec_l01Has.f k x9 (rd x12 x13)).bind fun t614 => (if t614 = true then (spec_ShortestInputs.l1 k x1 x2 x9 x10 x11 x12 (wrap64 (x13 + 1))) else ((some (([rd x12 x13] : List Int) : List Int)).bind fun y616 => (if x9.length + y616.length < 17592186044416 then (if 0 ≤ x11 then (if x11 < (x10.length : Int) then ((spec_l01Own.f (rd_L3 x10 x11)).bind fun t623 => (if x13 < (x1.length : Int) then ((some (([rd x1 x13] : List Int) : List Int)).bind fun y627 => (if t623.length + y627.length < 17592186044416 then ((some (([(t623 ++ y627)] : List (List Int)) : List (List Int))).bind fun y633 => (if x10.length + y633.length < 5864062014805 then (spec_ShortestInputs.l1 k x1 x2 (x9 ++ y616) (x10 ++ y633) x11 x12 (wrap64 (x13 + 1))) else (none))) else (none))) else (none))) else (none)) else (none)) else (none))))) else (spec_ShortestInputs.l1 k x1 x2 x9 x10 x11 x12 (wrap64 (x13 + 1)))) else (none)) else (spec_ShortestInputs.l0 k x1 x2 x9 x10 (wrap64 (x11 + 1)))
end
def spec_ShortestInputs.f (k : Nat) (a0_0 : Bool) (a0_1 : Bool) (a0_2 : Bool) (a0_3 : Bool) (a0_4 : Bool) (a0_5 : Int) (l1 : List Int) (a2 : Int) : Option (List Int × Int) := (spec_l25Code.f k a0_0 a0_1 a0_2 a0_3 a0_4 a0_5 l1).bind fun t594 => (if t594 = 0 then ((spec_l25Is.f a2).bind fun t595 => (spec_ShortestInputs.j0 k l1 a2 t594 (!t595) a0_0 a0_1 a0_2 a0_3 a0_4 a0_5)) else (spec_ShortestInputs.j0 k l1 a2 t594 false a0_0 a0_1 a0_2 a0_3 a0_4 a0_5))
theorem spec_ShortestInputs.mono_l : ∀ k, (∀ y0 y1 y2 y3 y4 y5 y6 y7 y8 y9, LeO (spec_ShortestInputs.j0 k y0 y1 y2 y3 y4 y5 y6 y7 y8 y9) (spec_ShortestInputs.j0 (k + 1) y0 y1 y2 y3 y4 y5 y6 y7 y8 y9)) ∧ (∀ y0 y1 y2 y3 y4 y5 y6 y7 y8, LeO (spec_ShortestInputs.j1 k y0 y1 y2 y3 y4 y5 y6 y7 y8) (spec_ShortestInputs.j1 (k + 1) y0 y1 y2 y3 y4 y5 y6 y7 y8)) ∧ (∀ y0 y1 y2 y3 y4, LeO (spec_ShortestInputs.l0 k y0 y1 y2 y3 y4) (spec_ShortestInputs.l0 (k + 1) y0 y1 y2 y3 y4)) ∧ (∀ y0 y1 y2 y3 y4 y5 y6, LeO (spec_ShortestInputs.l1 k y0 y1 y2 y3 y4 y5 y6) (spec_ShortestInputs.l1 (k + 1) y0 y1 y2 y3 y4 y5 y6))
 | 0 => ⟨fun _ _ _ _ _ _ _ _ _ _ r h => by simp [spec_ShortestInputs.j0] at h, fun _ _ _ _ _ _ _ _ _ r h => by simp [spec_ShortestInputs.j1] at h, fun _ _ _ _ _ r h => by simp [spec_ShortestInputs.l0] at h, fun _ _ _ _ _ _ _ r h => by simp [spec_ShortestInputs.l1] at h⟩
 | k + 1 => by
  obtain ⟨ih0, ih1, ih2, ih3⟩ := spec_ShortestInputs.mono_l k
  refine ⟨?_, ?_, ?_, ?_⟩
  ·intro y0 y1 y2 y3 y4 y5 y6 y7 y8 y9
   unfold spec_ShortestInputs.j0
   repeat' first
   | (with_reducible exact ih0 _ _ _ _ _ _ _ _ _ _)
   | (with_reducible exact ih1 _ _ _ _ _ _ _ _ _)
   | (with_reducible exact ih2 _ _ _ _ _)
   | (with_reducible exact ih3 _ _ _ _ _ _ _)
   | (with_reducible exact spec_l01Has.mono _ _ _)
   | (with_reducible exact spec_l25Code.mono _ _ _ _ _ _ _ _)
   | (with_reducible exact spec_l25Next.mono _ _ _)
   | (with_reducible exact spec_l25Number.mono _ _ _ _ _ _ _)
   | (with_reducible exact LeO.refl _)
   | (with_reducible exact LeO.none _)
   | (with_reducible refine LeO.ite ?_ ?_)
   | (with_reducible refine LeO.bind ?_ (fun _ => ?_))
   | exact ih0 _ _ _ _ _ _ _ _ _ _
   | exact ih1 _ _ _ _ _ _ _ _ _
   | exact ih2 _ _ _ _ _
   | exact ih3 _ _ _ _ _ _ _
   | exact spec_l01Has.mono _ _ _
   | exact spec_l25Code.mono _ _ _ _ _ _ _ _
   | exact spec_l25Next.mono _ _ _
   | exact spec_l25Number.mono _ _ _ _ _ _ _
   | exact LeO.none _
   | refine LeO.ite ?_ ?_
   | refine LeO.bind ?_ (fun _ => ?_)
  ·intro y0 y1 y2 y3 y4 y5 y6 y7 y8
   unfold spec_ShortestInputs.j1
   repeat' first
   | (with_reducible exact ih0 _ _ _ _ _ _ _ _ _ _)
   | (with_reducible exact ih1 _ _ _ _ _ _ _ _ _)
   | (with_reducible exact ih2 _ _ _ _ _)
   | (with_reducible exact ih3 _ _ _ _ _ _ _)
   | (with_reducible exact spec_l01Has.mono _ _ _)
   | (with_reducible exact spec_l25Code.mono _ _ _ _ _ _ _ _)
   | (with_reducible exact spec_l25Next.mono _ _ _)
   | (with_reducible exact spec_l25Number.mono _ _ _ _ _ _ _)
   | (with_reducible exact LeO.refl _)
   | (with_reducible exact LeO.none _)
   | (with_reducible refine LeO.ite ?_ ?_)
   | (with_reducible refine LeO.bind ?_ (fun _ => ?_))
   | exact ih0 _ _ _ _ _ _ _ _ _ _
   | exact ih1 _ _ _ _ _ _ _ _ _
   | exact ih2 _ _ _ _ _
   | exact ih3 _ _ _ _ _ _ _
   | exact spec_l01Has.mono _ _ _
   | exact spec_l25Code.mono _ _ _ _ _ _ _ _
   | exact spec_l25Next.mono _ _ _
   | exact spec_l25Number.mono _ _ _ _ _ _ _
   | exact LeO.none _
   | refine LeO.ite ?_ ?_
   | refine LeO.bind ?_ (fun _ => ?_)
  ·intro y0 y1 y2 y3 y4
   unfold spec_ShortestInputs.l0
   repeat' first
   | (with_reducible exact ih0 _ _ _ _ _ _ _ _ _ _)
   | (with_reducible exact ih1 _ _ _ _ _ _ _ _ _)
   | (with_reducible exact ih2 _ _ _ _ _)
   | (with_reducible exact ih3 _ _ _ _ _ _ _)
   | (with_reducible exact spec_l01Has.mono _ _ _)
   | (with_reducible exact spec_l25Code.mono _ _ _ _ _ _ _ _)
   | (with_reducible exact spec_l25Next.mono _ _ _)
   | (with_reducible exact spec_l25Number.mono _ _ _ _ _ _ _)
   | (with_reducible exact LeO.refl _)
   | (with_reducible exact LeO.none _)
   | (with_reducible refine LeO.ite ?_ ?_)
   | (with_reducible refine LeO.bind ?_ (fun _ => ?_))
   | exact ih0 _ _ _ _ _ _ _ _ _ _
   | exact ih1 _ _ _ _ _ _ _ _ _
   | exact ih2 _ _ _ _ _
   | exact ih3 _ _ _ _ _ _ _
   | exact spec_l01Has.mono _ _ _
   | exact spec_l25Code.mono _ _ _ _ _ _ _ _
   | exact spec_l25Next.mono _ _ _
   | exact spec_l25Number.mono _ _ _ _ _ _ _
   | exact LeO.none _
   | refine LeO.ite ?_ ?_
   | refine LeO.bind ?_ (fun _ => ?_)
  ·intro y0 y1 y2 y3 y4 y5 y6
   unfold spec_ShortestInputs.l1
   repeat' first
   | (with_reducible exact ih0 _ _ _ _ _ _ _ _ _ _)
   | (with_reducible exact ih1 _ _ _ _ _ _ _ _ _)
   | (with_reducible exact ih2 _ _ _ _ _)
   | (with_reducible exact ih3 _ _ _ _ _ _ _)
   | (with_reducible exact spec_l01Has.mono _ _ _)
   | (with_reducible exact spec_l25Code.mono _ _ _ _ _ _ _ _)
   | (with_reducible exact spec_l25Next.mono _ _ _)
   | (with_reducible exact spec_l25Number.mono _ _ _ _ _ _ _)
   | (with_reducible exact LeO.refl _)
   | (with_reducible exact LeO.none _)
   | (with_reducible refine LeO.ite ?_ ?_)
   | (with_reducible refine LeO.bind ?_ (fun _ => ?_))
   | exact ih0 _ _ _ _ _ _ _ _ _ _
   | exact ih1 _ _ _ _ _ _ _ _ _
   | exact ih2 _ _ _ _ _
   | exact ih3 _ _ _ _ _ _ _
   | exact spec_l01Has.mono _ _ _
   | exact spec_l25Code.mono _ _ _ _ _ _ _ _
   | exact spec_l25Next.mono _ _ _
   | exact spec_l25Number.mono _ _ _ _ _ _ _
   | exact LeO.none _
   | refine LeO.ite ?_ ?_
   | refine LeO.bind ?_ (fun _ => ?_)
theorem spec_ShortestInputs.mono : ∀ a0 a1 a2 a3 a4 a5 a6 a7 k, LeO (spec_ShortestInputs.f k a0 a1 a2 a3 a4 a5 a6 a7) (spec_ShortestInputs.f (k + 1) a0 a1 a2 a3 a4 a5 a6 a7) := by
 intro a0 a1 a2 a3 a4 a5 a6 a7 k
 obtain ⟨ih0, ih1, ih2, ih3⟩ := spec_ShortestInputs.mono_l k
 unfold spec_ShortestInputs.f
 repeat' first
   | (with_reducible exact ih0 _ _ _ _ _ _ _ _ _ _)
   | (with_reducible exact ih1 _ _ _ _ _ _ _ _ _)
   | (with_reducible exact ih2 _ _ _ _ _)
   | (with_reducible exact ih3 _ _ _ _ _ _ _)
   | (with_reducible exact spec_l01Has.mono _ _ _)
   | (with_reducible exact spec_l25Code.mono _ _ _ _ _ _ _ _)
   | (with_reducible exact spec_l25Next.mono _ _ _)
   | (with_reducible exact spec_l25Number.mono _ _ _ _ _ _ _)
   | (with_reducible exact LeO.refl _)
   | (with_reducible exact LeO.none _)
   | (with_reducible refine LeO.ite ?_ ?_)
   | (with_reducible refine LeO.bind ?_ (fun _ => ?_))
   | exact ih0 _ _ _ _ _ _ _ _ _ _
   | exact ih1 _ _ _ _ _ _ _ _ _
   | exact ih2 _ _ _ _ _
   | exact ih3 _ _ _ _ _ _ _
   | exact spec_l01Has.mono _ _ _
   | exact spec_l25Code.mono _ _ _ _ _ _ _ _
   | exact spec_l25Next.mono _ _ _
   | exact spec_l25Number.mono _ _ _ _ _ _ _
   | exact LeO.none _
   | refine LeO.ite ?_ ?_
   | refine LeO.bind ?_ (fun _ => ?_)
def spec_ShortestInputs.T19 : Bool × List (List Nat × List Nat) := (true, [([], []), ([], []), ([], []), ([1, 2], [1, 2]), ([3], [3]), ([4], [4]), ([], []), ([], []), ([6, 7], [6, 7]), ([8], [8]), ([9], [9]), ([5, 10, 5], [5, 10]), ([11], [11]), ([0, 12, 11], [0, 12]), ([13, 13, 0, 1, 2, 3, 4, 5, 6, 7, 8, 9, 10, 11, 12, 13], [0, 1, 13])])
def spec_ShortestInputs.B19 : List Nat := [0, 0, 0, 6, 14, 30, 0, 0, 192, 448, 960, 2046, 4094, 8191, 16383]
theorem spec_ShortestInputs.tab19 : rtab .any (opsOf Try.f35 19) = spec_ShortestInputs.T19 := by kernel_rfl
theorem spec_ShortestInputs.bits19 : waitsOk spec_ShortestInputs.T19.2 spec_ShortestInputs.B19 = true := by kernel_rfl
set_option maxHeartbeats 8000000 in
set_option maxRecDepth 100000 in
theorem spec_ShortestInputs.calls (k : Nat) (a0_0 : Bool) (a0_1 : Bool) (a0_2 : Bool) (a0_3 : Bool) (a0_4 : Bool) (a0_5 : Int) (A1 : Option Addr) (c1 : Nat) (l1 : List Int) (a2 : Int) (r1 : List Int) (r2 : Int) (w : World) (hr1 : Kd.C (Kd.int .i64) w A1 l1.length l1) (hc1 : l1.length ≤ c1) (h : spec_ShortestInputs.f k a0_0 a0_1 a0_2 a0_3 a0_4 a0_5 l1 a2 = some (r1, r2)) :
  Calls Try.prog 35 #[.agg #[.bool a0_0, .bool a0_1, .bool a0_2, .bool a0_3, .bool a0_4, .int .i64 a0_5], .slice A1 l1.length c1, .int .i64 a2] w fun e w' => ∃ v0_ : Value, e = .returned (.tuple #[v0_, .int .i64 r2]) ∧ Kd.V (Kd.int .i64) 2 w' w.heap.size (fun k_ => (w.heap.size ≤ k_)) v0_ r1 ∧ Below w.heap.size w w' := by
 have hu23 := Try.underlying23
 have HR1 := jA hr1
 have HC1 := jA hc1
 clear hr1 hc1
 have HB := jA (Below.refl w.heap.size w)
 have H := h
 unfold spec_ShortestInputs.f at H
 clear h
 replace H := jD.mp H
 obtain ⟨t594, A40, H⟩ := H
 try dsimp only at H
 have A4 := jA A40
 clear A40
 have HC5 := jA H
 clear H
 go_enter Try.func35, Try.ntmps35
 go_upto_region 2 with (first | ((with_reducible refine jK (N := 3) rfl ?_); refine zE 3 #[.bool a0_0, .bool a0_1, .bool a0_2, .bool a0_3, .bool a0_4, .int .i64 a0_5] 23 ?_; intro gb593 hg w6 hbox hb; have BK593 := jA (hbox); have GW593 := zg0 hg HB; have GE593 := zg0 hg HB; replace HB := zS0 HB hb; clear hb hbox hg; have hcz7 := zc6 BK593) | ((with_reducible refine jH (f := 70) rfl ?_); refine zL (some 16) Try.func70 #[.agg #[.bool a0_0, .bool a0_1, .bool a0_2, .bool a0_3, .bool a0_4, .int .i64 a0_5], .slice A1 l1.length c1] ?_; (with_reducible refine (spec_l25Code.calls k a0_0 a0_1 a0_2 a0_3 a0_4 a0_5 _ _ l1 t594 _ ?side1 ?side2 A4.out).mono ?_); (case side1 => exact zs HR1 HB); (case side2 => exact HC1.out); rintro e w8 ⟨rfl, hb⟩; refine ⟨_, rfl, ?_⟩; replace BK593 := zB BK593 hb; replace HB := zS1 HB GE593 hb; clear hb))
 (try simp only [Act.put, jC, jE, jF])
 go_cut [23] (fun v23 wc => ∃ (kq : Nat) (x23_4 : Bool), v23 = .bool x23_4 ∧ Aside0 (spec_ShortestInputs.j0 kq l1 a2 t594 x23_4 a0_0 a0_1 a0_2 a0_3 a0_4 a0_5 = some (r1, r2)) ∧ Aside0 (kq ≤ k) ∧ Aside0 (wc.heap[gb593]? = some (.cells #[.bool a0_0, .bool a0_1, .bool a0_2, .bool a0_3, .bool a0_4, .int .i64 a0_5] 23 (0, 0))) ∧ Aside0 (Below w.heap.size w wc))
 case first =>
  have H := HC5.out
  clear HC5
  by_cases c9 : t594 = 0
  ·rw [if_pos c9] at H
   have c9b0 : (t594 == 0) = true := beq_iff_eq.mpr c9
   have c9b1 : (t594 != 0) = false := bne_eq_false_iff_eq.mpr c9
   clear c9
   (first | rw [c9b0] | (simp only [i64_w, i32_w]; rw [c9b0]) | skip)
   replace H := jD.mp H
   obtain ⟨t595, A100, H⟩ := H
   try dsimp only at H
   have A10 := jA A100
   clear A100
   have H' := jA H
   clear H
   go_wp2_with (first | (go_at_call 47; (with_reducible refine (spec_l25Is.calls a2 t595 _ A10.out).mono ?_); rintro e w11 ⟨rfl, hb⟩; replace BK593 := zB BK593 hb; replace HB := zS1 HB GE593 hb; (try clear hb); (try clear hb2); (try clear hk); (try clear hi)))
   go_meet
   case rel => exact ⟨_, (!t595), zz, H', ⟨by first | omega | exact Nat.le_refl _⟩, ⟨zk BK593⟩, ⟨zb1 HB GE593⟩⟩
  ·rw [if_neg c9] at H
   have c9b0 : (t594 == 0) = false := beq_eq_false_iff_ne.mpr c9
   have c9b1 : (t594 != 0) = true := bne_iff_ne.mpr c9
   (first | rw [c9b0] | (simp only [i64_w, i32_w]; rw [c9b0]) | skip)
   have H' := jA H
   clear H
   go_wp2
   go_meet
   case rel => exact ⟨_, (false), zz, H', ⟨by first | omega | exact Nat.le_refl _⟩, ⟨zk BK593⟩, ⟨zb1 HB GE593⟩⟩
 case rest =>
  clear HC5
  try clear c1
  try clear p2
  try clear c3
  try clear c7
  try clear c9
  try clear c9b0
  try clear c9b1
  try clear hcz7
  obtain ⟨kq, x23_4, rfl, HA, HJ4, BK593, HB⟩ := hcut
  cases kq with
  | zero => exact absurd HA.out (by simp [spec_ShortestInputs.j0])
  | succ kj4 =>
   have H := HA.out
   clear HA
   simp only [spec_ShortestInputs.j0] at H
   have HC12 := jA H
   clear H
   go_upto_if 23 with (fail)
   go_cut [8] (fun v8 wc => ∃ (kq : Nat) (x8_11 : Int), v8 = .int .i64 x8_11 ∧ Aside0 (spec_ShortestInputs.j1 kq l1 a2 x8_11 a0_0 a0_1 a0_2 a0_3 a0_4 a0_5 = some (r1, r2)) ∧ Aside0 (kq ≤ kj4) ∧ Aside0 (wc.heap[gb593]? = some (.cells #[.bool a0_0, .bool a0_1, .bool a0_2, .bool a0_3, .bool a0_4, .int .i64 a0_5] 23 (0, 0))) ∧ Aside0 (Below w.heap.size w wc))
   case first =>
    have H := HC12.out
    clear HC12
    by_cases c13 : x23_4 = true
    ·subst c13
     rw [if_pos rfl] at H
     have H' := jA H
     clear H
     go_wp2
     go_meet
     case rel => exact ⟨_, (2), zz, H', ⟨by have := HJ4.out; first | omega | exact Nat.le_refl _⟩, ⟨zk BK593⟩, ⟨zb1 HB GE593⟩⟩
    ·replace c13 := Bool.eq_false_iff.mpr c13
     subst c13
     rw [if_neg zfalse] at H
     have H' := jA H
     clear H
     go_wp2
     go_meet
     case rel => exact ⟨_, (t594), zz, H', ⟨by have := HJ4.out; first | omega | exact Nat.le_refl _⟩, ⟨zk BK593⟩, ⟨zb1 HB GE593⟩⟩
   case rest =>
    clear HC12
    try clear c1
    try clear p2
    try clear c3
    try clear c7
    try clear c9
    try clear c9b0
    try clear c9b1
    try clear c13
    try clear hcz7
    try clear p2
    obtain ⟨kq, x8_11, rfl, HA, HJ11, BK593, HB⟩ := hcut
    cases kq with
    | zero => exact absurd HA.out (by simp [spec_ShortestInputs.j1])
    | succ kj11 =>
     have H := HA.out
     clear HA
     simp only [spec_ShortestInputs.j1] at H
     by_cases c14 : x8_11 = 0
     ·rw [if_pos c14] at H
      have c14b0 : (x8_11 == 0) = true := beq_iff_eq.mpr c14
      have c14b1 : (x8_11 != 0) = false := bne_eq_false_iff_eq.mpr c14
      clear c14
      replace H := jD.mp H
      obtain ⟨t596, A150, H⟩ := H
      try dsimp only at H
      have A15 := jA A150
      clear A150
      obtain ⟨y597, hy597⟩ : ∃ y_ : List Int, y_ = (([t596] : List Int)) := ⟨_, rfl⟩
      replace H : (spec_ShortestInputs.l0 kj11 l1 a2 y597 (([(([] : List Int))] : List (List Int))) 0) = some (r1, r2) := by first | (rw [hy597]; with_reducible exact H) | (have H2_ := (Option.bind_some _ _).symm.trans H; rw [hy597]; with_reducible exact H2_) | (have H2_ := (Option.bind_some _ _).symm.trans H; with_reducible exact H2_) | with_reducible exact H | (rw [hy597]; exact H) | exact H
      have Ny597 := jA hy597
      clear hy597
      obtain ⟨y600, hy600⟩ : ∃ y_ : List Int, y_ = (([] : List Int)) := ⟨_, rfl⟩
      replace H : (spec_ShortestInputs.l0 kj11 l1 a2 y597 (([y600] : List (List Int))) 0) = some (r1, r2) := by first | (rw [hy600]; with_reducible exact H) | (have H2_ := (Option.bind_some _ _).symm.trans H; rw [hy600]; with_reducible exact H2_) | (have H2_ := (Option.bind_some _ _).symm.trans H; with_reducible exact H2_) | with_reducible exact H | (rw [hy600]; exact H) | exact H
      have Ny600 := jA hy600
      clear hy600
      obtain ⟨y603, hy603⟩ : ∃ y_ : List (List Int), y_ = (([y600] : List (List Int))) := ⟨_, rfl⟩
      replace H : (spec_ShortestInputs.l0 kj11 l1 a2 y597 y603 0) = some (r1, r2) := by first | (rw [hy603]; with_reducible exact H) | (have H2_ := (Option.bind_some _ _).symm.trans H; rw [hy603]; with_reducible exact H2_) | (have H2_ := (Option.bind_some _ _).symm.trans H; with_reducible exact H2_) | with_reducible exact H | (rw [hy603]; exact H) | exact H
      have Ny603 := jA hy603
      clear hy603
      have H' := jA H
      clear H
      have hcz16 := zc6 BK593
      go_wp2_with (first | ((with_reducible refine jH (f := 52) rfl ?_); refine zL (some 28) Try.func52 #[.agg #[.bool a0_0, .bool a0_1, .bool a0_2, .bool a0_3, .bool a0_4, .int .i64 a0_5]] ?_; (with_reducible refine (spec_l25Number.calls kj11 a0_0 a0_1 a0_2 a0_3 a0_4 a0_5 t596 _ A15.out).mono ?_); rintro e w17 ⟨rfl, hb⟩; refine ⟨_, rfl, ?_⟩; replace BK593 := zB BK593 hb; replace HB := zS1 HB GE593 hb; clear hb) | ((with_reducible refine jK (N := 29) rfl ?_); refine Kd.R_lit (Kd.int .i64) _ 2 ?hg (N := 29) ?hd (xs := ([t596] : List Int)) (inner := [.int .i64 t596]) (ok := fun _ => True) (okp := fun _ => True) ?hr ?hp (fun _ hk => hk) trivial (Below.refl _ _) (Nat.le_refl _) (by simp) ?_; (case hd => rfl); (case hg => rfl); (case hr => first | (go_simp; done) | (go_simp; rfl)); (case hp => exact (Reps.one (show Kd.M (Kd.int .i64) _ _ _ t596 [.int .i64 t596] from rfl) (Reps.none _ _))); intro v598 w18 ho19 hb hg_ hnew_; clear hg_ hnew_; (first | rw [← Ny597.out] at ho19 | (simp only [Int.reduceToNat] at ho19; rw [← Ny597.out] at ho19)); have HO599 := jA (jZ (Kd.R_newM (M := fun k_ => (w.heap.size ≤ k_)) ho19 (jP (zb1 HB GE593)) (fun k_ h_ => h_)) (jP (zb1 HB GE593))); replace BK593 := zB BK593 hb; replace HB := zS1 HB GE593 hb; clear hb ho19) | ((with_reducible refine jK (N := 30) rfl ?_); refine Kd.R_lit (Kd.int .i64) _ 2 ?hg (N := 30) ?hd (xs := ([] : List Int)) (inner := []) (ok := fun _ => True) (okp := fun _ => True) ?hr ?hp (fun _ hk => hk) trivial (Below.refl _ _) (Nat.le_refl _) (by simp) ?_; (case hd => rfl); (case hg => rfl); (case hr => first | (go_simp; done) | (go_simp; rfl)); (case hp => exact (Reps.none _ _)); intro v601 w20 ho21 hb hg_ hnew_; clear hg_ hnew_; (first | rw [← Ny600.out] at ho21 | (simp only [Int.reduceToNat] at ho21; rw [← Ny600.out] at ho21)); have HO602 := jA (jZ (Kd.R_new' (Kd.R_newM (M := fun k_ => (w.heap.size ≤ k_)) ho21 (jP (zb1 HB GE593)) (fun k_ h_ => h_)) (Kd.R_lt (zo HO599))) (jP (zb1 HB GE593))); replace HO599 := jA (Kd.R_elder' (zo HO599) (Kd.R_base ho21) hb); replace BK593 := zB BK593 hb; replace HB := zS1 HB GE593 hb; clear hb ho21; obtain ⟨Ao22, co22, eo22⟩ := Kd.R_slice HO602.out; subst eo22) | ((with_reducible refine jK (N := 31) rfl ?_); refine Kd.N_lit (Kd.slice 2 (Kd.int .i64)) _ 35 ?hg (N' := 31) ?hd (xs := ([y600] : List (List Int))) (inner := [.slice Ao22 y600.length co22]) (ok := (fun k_ => (w.heap.size ≤ k_) ∧ some k_ ≠ (v598 : Value).ownBlock ∧ k_ ≠ gb593)) (okp := (fun k_ => (w.heap.size ≤ k_) ∧ some k_ ≠ (v598 : Value).ownBlock ∧ k_ ≠ gb593)) ?hr ?hp (fun _ hk => hk) ((show ∀ k_, w20.heap.size ≤ k_ → (fun k_ => (w.heap.size ≤ k_) ∧ some k_ ≠ (v598 : Value).ownBlock ∧ k_ ≠ gb593) k_ from fun k_ hk => ⟨(Nat.le_trans (jP (zb1 HB GE593)) hk), Kd.fresh' (Kd.R_lt (zo HO599)) k_ hk, Kd.freshB (g := gb593) (o := .cells #[.bool a0_0, .bool a0_1, .bool a0_2, .bool a0_3, .bool a0_4, .int .i64 a0_5] 23 (0, 0)) (zk BK593) k_ hk⟩) _ (Nat.le_refl _)) (Below.refl _ _) (Nat.le_refl _) (by simp) ?_; (case hd => rfl); (case hg => rfl); (case hr => first | (go_simp; done) | (go_simp; rfl)); (case hp => exact (Reps.one (show Kd.FK (Kd.slice 2 (Kd.int .i64)) _ _ y600 [.slice Ao22 y600.length co22] from (Kd.FK_slice_mk (jO (Kd.R_mono (ok' := (fun k_ => (w.heap.size ≤ k_) ∧ some k_ ≠ (v598 : Value).ownBlock ∧ k_ ≠ gb593)) (Kd.R_types (HO602.out) BK593.out (by decide)) (fun k_ hk => ⟨hk.1.1.1, ⟨hk.1.2, hk.2⟩⟩))).2.1 (Kd.R_F (Kd.R_mono (ok' := (fun k_ => (w.heap.size ≤ k_) ∧ some k_ ≠ (v598 : Value).ownBlock ∧ k_ ≠ gb593)) (Kd.R_types (HO602.out) BK593.out (by decide)) (fun k_ hk => ⟨hk.1.1.1, ⟨hk.1.2, hk.2⟩⟩))))) (Reps.none _ _))); intro v604 w23 ho24 hb hg_ hnew_; clear hg_ hnew_; (first | rw [← Ny603.out] at ho24 | (simp only [Int.reduceToNat] at ho24; rw [← Ny603.out] at ho24)); replace HO599 := jA (jQ (zo HO599) hb); have HO605 := jA (Kd.N_lower ho24 (jP (zb1 HB GE593))); replace BK593 := zB BK593 hb; replace HB := zS1 HB GE593 hb; clear HO602; clear hb ho24))
      go_loopg [9, 10, 11] kj11 (fun kq v9 v10 v11 w' => ∃ (x9_3 : List Int) (x10_3 : List (List Int)) (x11_3 : Int), v11 = .int .i64 x11_3 ∧ Aside0 (spec_ShortestInputs.l0 kq l1 a2 x9_3 x10_3 x11_3 = some (r1, r2)) ∧ Aside0 (kq ≤ kj11) ∧ Aside0 (Kd.R (Kd.int .i64) 2 w' w.heap.size (fun k_ => (w.heap.size ≤ k_)) v9 x9_3) ∧ Aside0 (Kd.N (Kd.slice 2 (Kd.int .i64)) 35 w' w.heap.size (fun k_ => (w.heap.size ≤ k_) ∧ some k_ ≠ (v9 : Value).ownBlock ∧ k_ ≠ gb593) v10 x10_3) ∧ Aside0 (w'.heap[gb593]? = some (.cells #[.bool a0_0, .bool a0_1, .bool a0_2, .bool a0_3, .bool a0_4, .int .i64 a0_5] 23 (0, 0))) ∧ Aside0 (Below w.heap.size w w'))
      case atStart => exact ⟨(y597), (y603), (0), zz, H', ⟨Nat.le_refl _⟩, ⟨by (with_reducible repeat (first | apply jV | apply jU | apply jS)); exact Kd.R_mono HO599.out (fun _ hk => hk.1.1)⟩, ⟨by (with_reducible repeat (first | apply Kd.N_alloc | apply Kd.N_drewN | apply Kd.N_drew)); exact HO605.out⟩, ⟨zk BK593⟩, ⟨zb1 HB GE593⟩⟩
      case round =>
       clear H'
       try clear c1
       try clear p2
       try clear c3
       try clear c5
       try clear c7
       try clear c9
       try clear c9b0
       try clear c9b1
       try clear c13
       try clear c14
       try clear c14b0
       try clear c14b1
       try clear hcz16
       try clear hcz7
       try clear p2
       obtain ⟨x9_3, x10_3, x11_3, rfl, HA, HK3, HO_9, HO_10, BK593, HB⟩ := hrel
       cases gk with
       | zero => exact absurd HA.out (by simp [spec_ShortestInputs.l0])
       | succ k3 =>
        have H := HA.out
        clear HA
        simp only [spec_ShortestInputs.l0] at H
        by_cases c25 : x11_3 < (x9_3.length : Int)
        ·rw [if_pos c25] at H
         have c25b0 : decide (x11_3 < (x9_3.length : Int)) = true := jJ c25
         clear c25
         by_cases c26 : 0 ≤ x11_3
         ·rw [if_pos c26] at H
          have c26b0 : decide (0 ≤ x11_3) = true := jJ c26
          clear c26
          by_cases c27 : (rd x9_3 x11_3) = a2
          ·rw [if_pos c27] at H
           have c27b0 : ((rd x9_3 x11_3) == a2) = true := beq_iff_eq.mpr c27
           have c27b1 : ((rd x9_3 x11_3) != a2) = false := bne_eq_false_iff_eq.mpr c27
           clear c27
           by_cases c28 : x11_3 < (x10_3.length : Int)
           ·rw [if_pos c28] at H
            have c28b0 : decide (x11_3 < (x10_3.length : Int)) = true := jJ c28
            clear c28
            simp only [jI, jM] at H
            obtain ⟨rfl, rfl⟩ := H
            obtain ⟨Ao29, co29, eo29⟩ := Kd.R_slice HO_9.out
            subst eo29
            have p606 : 0 ≤ (x11_3 : Int) := jB za
            have q606 : x11_3 < (x9_3.length : Int) := jB za
            obtain ⟨ad606, e606, hx606_0⟩ := jR (jO HO_9.out).2.2 x11_3 p606 q606
            cases e606
            replace p606 := eq_true p606
            replace q606 := eq_true q606
            obtain ⟨Ao30, co30, eo30⟩ := Kd.N_slice HO_10.out
            subst eo30
            have p607 : 0 ≤ (x11_3 : Int) := jB za
            have q607 : x11_3 < (x10_3.length : Int) := jB za
            obtain ⟨ad607, A607_0, c607_0, e607, hx607_0, hl607_0, hi607_0⟩ := at_L3 (Kd.N_reads' HO_10.out).2.2 x11_3 p607 q607
            cases e607
            obtain ⟨ce607, hce607, hMe607, hcc607⟩ := Kd.N_get HO_10.out [] x11_3 p607 (by first | exact q607 | exact jB za | (have e_ := (Kd.N_reads' HO_10.out).1; omega))
            obtain ⟨ua607_0, uc607_0, rfl, ul607_0, ge607_0⟩ := Kd.FK_slice_open hMe607
            have hv607_0 := hcc607 0 _ rfl
            rw [Nat.add_zero, show ((Kd.slice 2 (Kd.int .i64))).sz = 1 from rfl, Nat.mul_one] at hv607_0
            replace hv607_0 := jN (hv607_0.symm.trans hx607_0)
            injection hv607_0 with hva_ hvn_ hvc_
            rw [hva_] at ge607_0
            rw [hvc_] at ul607_0
            have HL607_0 := jA (show Kd.V (Kd.int .i64) 2 _ w.heap.size _ _ (rd_L3 x10_3 x11_3) from Kd.V_mk ul607_0 ge607_0)
            clear hva_ hvn_ hvc_ ge607_0 ul607_0
            clear hcc607 hce607
            have HR607_0 := jA hi607_0
            have HC607_0 := jA hl607_0
            clear hi607_0 hl607_0
            replace p607 := eq_true p607
            replace q607 := eq_true q607
            go_wp2
            go_ret2
            exact ⟨_, ze, by (with_reducible repeat (first | apply Kd.V_alloc | apply Kd.V_drewN | apply Kd.V_drew)); exact Kd.V_mono HL607_0.out (fun _ hk => hk.1.1), zb1 HB GE593⟩
           ·rw [if_neg c28] at H
            exact absurd H (by simp)
          ·rw [if_neg c27] at H
           have c27b0 : ((rd x9_3 x11_3) == a2) = false := beq_eq_false_iff_ne.mpr c27
           have c27b1 : ((rd x9_3 x11_3) != a2) = true := bne_iff_ne.mpr c27
           replace H := jD.mp H
           obtain ⟨t609, A310, H⟩ := H
           try dsimp only at H
           have A31 := jA A310
           clear A310
           have H' := jA H
           clear H
           obtain ⟨Ao32, co32, eo32⟩ := Kd.R_slice HO_9.out
           subst eo32
           have p606 : 0 ≤ (x11_3 : Int) := jB za
           have q606 : x11_3 < (x9_3.length : Int) := jB za
           obtain ⟨ad606, e606, hx606_0⟩ := jR (jO HO_9.out).2.2 x11_3 p606 q606
           cases e606
           replace p606 := eq_true p606
           replace q606 := eq_true q606
           have p608 : 0 ≤ (x11_3 : Int) := jB za
           have q608 : x11_3 < (x9_3.length : Int) := jB za
           obtain ⟨ad608, e608, hx608_0⟩ := jR (jO HO_9.out).2.2 x11_3 p608 q608
           obtain rfl : ad606 = ad608 := (by injection e608)
           replace p608 := eq_true p608
           replace q608 := eq_true q608
           go_wp2_with (first | ((with_reducible refine jH (f := 71) rfl ?_); refine zL (some 53) Try.func71 #[.int .i64 (rd x9_3 x11_3), .slice A1 l1.length c1] ?_; (with_reducible refine (spec_l25Next.calls k3 (rd x9_3 x11_3) _ _ l1 t609 _ ?side1 ?side2 A31.out).mono ?_); (case side1 => exact zs HR1 HB); (case side2 => exact HC1.out); rintro e w33 ⟨v610, rfl, ho0, hb⟩; refine ⟨_, rfl, ?_⟩; replace HO_10 := jA (Kd.N_elder' (by (with_reducible repeat (first | apply Kd.N_alloc | apply Kd.N_drewN | apply Kd.N_drew)); exact HO_10.out) (Kd.R_base ho0) hb); have HO611 := jA (jZ (Kd.R_new' (Kd.R_newM (M := fun k_ => (w.heap.size ≤ k_)) ho0 (jP (zb1 HB GE593)) (fun k_ h_ => h_)) (Kd.R_lt (zo HO_9))) (jP (zb1 HB GE593))); replace HO_9 := jA (Kd.R_elder' (zo HO_9) (Kd.R_base ho0) hb); replace BK593 := zB BK593 hb; replace HB := zS1 HB GE593 hb; (try clear hb); (try clear hb2); (try clear hk); (try clear hi); (try clear ho0)))
           go_loopg [9, 10, 13] k3 (fun kq v9 v10 v13 w' => ∃ (x9_4 : List Int) (x10_4 : List (List Int)) (x13_4 : Int), v13 = .int .i64 x13_4 ∧ Aside0 (spec_ShortestInputs.l1 kq l1 a2 x9_4 x10_4 x11_3 t609 x13_4 = some (r1, r2)) ∧ Aside0 (kq ≤ k3) ∧ Aside0 (Kd.R (Kd.int .i64) 2 w' w.heap.size (fun k_ => (w.heap.size ≤ k_) ∧ some k_ ≠ (v610 : Value).ownBlock) v9 x9_4) ∧ Aside0 (Kd.N (Kd.slice 2 (Kd.int .i64)) 35 w' w.heap.size (fun k_ => (w.heap.size ≤ k_) ∧ some k_ ≠ (v9 : Value).ownBlock ∧ some k_ ≠ (v610 : Value).ownBlock ∧ k_ ≠ gb593) v10 x10_4) ∧ Aside0 (Kd.R (Kd.int .i64) 2 w' w.heap.size (fun k_ => (w.heap.size ≤ k_) ∧ some k_ ≠ (v9 : Value).ownBlock) v610 t609) ∧ Aside0 (w'.heap[gb593]? = some (.cells #[.bool a0_0, .bool a0_1, .bool a0_2, .bool a0_3, .bool a0_4, .int .i64 a0_5] 23 (0, 0))) ∧ Aside0 (Below w.heap.size w w'))
           case atStart => exact ⟨(x9_3), (x10_3), (0), zz, H', ⟨Nat.le_refl _⟩, ⟨zo HO_9⟩, ⟨by (with_reducible repeat (first | apply Kd.N_alloc | apply Kd.N_drewN | apply Kd.N_drew)); exact Kd.N_mono HO_10.out (fun _ hk => ⟨hk.1.1, ⟨hk.1.2.1, ⟨hk.2, hk.1.2.2⟩⟩⟩)⟩, ⟨by (with_reducible repeat (first | apply jV | apply jU | apply jS)); exact Kd.R_mono HO611.out (fun _ hk => ⟨hk.1.1, hk.2⟩)⟩, ⟨zk BK593⟩, ⟨zb1 HB GE593⟩⟩
           case round =>
            clear H'
            try clear c1
            try clear c2
            try clear p2
            try clear c3
            try clear c5
            try clear c6
            try clear p6
            try clear q6
            try clear hx6
            try clear c7
            try clear c9
            try clear c9b0
            try clear c9b1
            try clear c13
            try clear c14
            try clear c14b0
            try clear c14b1
            try clear c25
            try clear c25b0
            try clear c26
            try clear c26b0
            try clear c27
            try clear c27b0
            try clear c27b1
            try clear c28
            try clear c28b0
            try clear hcz16
            try clear hcz7
            try clear hx606_0
            try clear hx607_0
            try clear hx608_0
            try clear p2
            try clear p606
            try clear p607
            try clear p608
            try clear q606
            try clear q607
            try clear q608
            obtain ⟨x9_4, x10_4, x13_4, rfl, HA, HK4, HO_9, HO_10, HO_12, BK593, HB⟩ := hrel
            cases gk with
            | zero => exact absurd HA.out (by simp [spec_ShortestInputs.l1])
            | succ k4 =>
             have H := HA.out
             clear HA
             simp only [spec_ShortestInputs.l1] at H
             by_cases c34 : x13_4 < (t609.length : Int)
             ·rw [if_pos c34] at H
              have c34b0 : decide (x13_4 < (t609.length : Int)) = true := jJ c34
              clear c34
              by_cases c35 : 0 ≤ x13_4
              ·rw [if_pos c35] at H
               have c35b0 : decide (0 ≤ x13_4) = true := jJ c35
               clear c35
               by_cases c36 : (rd t609 x13_4) ≥ 0
               ·rw [if_pos c36] at H
                have c36b0 : decide (0 ≤ (rd t609 x13_4)) = true := jJ c36
                clear c36
                replace H := jD.mp H
                obtain ⟨t614, A370, H⟩ := H
                replace H : (if t614 = true then (spec_ShortestInputs.l1 k4 l1 a2 x9_4 x10_4 x11_3 t609 (wrap64 (x13_4 + 1))) else ((some (([rd t609 x13_4] : List Int) : List Int)).bind fun y616 => (if x9_4.length + y616.length < 17592186044416 then (if 0 ≤ x11_3 then (if x11_3 < (x10_4.length : Int) then ((spec_l01Own.f (rd_L3 x10_4 x11_3)).bind fun t623 => (if x13_4 < (l1.length : Int) then ((some (([rd l1 x13_4] : List Int) : List Int)).bind fun y627 => (if t623.length + y627.length < 17592186044416 then ((some (([(t623 ++ y627)] : List (List Int)) : List (List Int))).bind fun y633 => (if x10_4.length + y633.length < 5864062014805 then (spec_ShortestInputs.l1 k4 l1 a2 (x9_4 ++ y616) (x10_4 ++ y633) x11_3 t609 (wrap64 (x13_4 + 1))) else (none))) else (none))) else (none))) else (none)) else (none)) else (none)))) = some (r1, r2) := H
                have A37 := jA A370
                clear A370
                by_cases c38 : t614 = true
                ·subst c38
                 rw [if_pos rfl] at H
                 have H' := jA H
                 clear H
                 obtain ⟨Ao39, co39, eo39⟩ := Kd.R_slice HO_12.out
                 subst eo39
                 have p612 : 0 ≤ (x13_4 : Int) := jB za
                 have q612 : x13_4 < (t609.length : Int) := jB za
                 obtain ⟨ad612, e612, hx612_0⟩ := jR (jO HO_12.out).2.2 x13_4 p612 q612
                 cases e612
                 replace p612 := eq_true p612
                 replace q612 := eq_true q612
                 have p613 : 0 ≤ (x13_4 : Int) := jB za
                 have q613 : x13_4 < (t609.length : Int) := jB za
                 obtain ⟨ad613, e613, hx613_0⟩ := jR (jO HO_12.out).2.2 x13_4 p613 q613
                 obtain rfl : ad612 = ad613 := (by injection e613)
                 replace p613 := eq_true p613
                 replace q613 := eq_true q613
                 obtain ⟨Ao40, co40, eo40⟩ := Kd.R_slice HO_9.out
                 subst eo40
                 go_wp2_with (first | (go_at_call 72; (with_reducible refine (spec_l01Has.calls k4 _ _ x9_4 (rd t609 x13_4) true _ ?side1 ?side2 A37.out).mono ?_); (case side1 => exact zv HO_9); (case side2 => exact (jO HO_9.out).2.1); rintro e w' ⟨rfl, ⟨nd, rfl⟩⟩))
                 go_roundg k4
                 case measure => have := HJ4.out; have := HJ11.out; have := HK3.out; have := HK4.out; omega
                 case rel => exact ⟨(x9_4), (x10_4), (wrap64 (x13_4 + 1)), zz, H', ⟨by have := HJ4.out; have := HJ11.out; have := HK3.out; have := HK4.out; omega⟩, ⟨zo HO_9⟩, ⟨by (with_reducible repeat (first | apply Kd.N_alloc | apply Kd.N_drewN | apply Kd.N_drew)); exact HO_10.out⟩, ⟨zo HO_12⟩, ⟨zk BK593⟩, ⟨zb1 HB GE593⟩⟩
                ·replace c38 := Bool.eq_false_iff.mpr c38
                 subst c38
                 rw [if_neg zfalse] at H
                 obtain ⟨y616, hy616⟩ : ∃ y_ : List Int, y_ = (([rd t609 x13_4] : List Int)) := ⟨_, rfl⟩
                 replace H : (if x9_4.length + y616.length < 17592186044416 then (if 0 ≤ x11_3 then (if x11_3 < (x10_4.length : Int) then ((spec_l01Own.f (rd_L3 x10_4 x11_3)).bind fun t623 => (if x13_4 < (l1.length : Int) then ((some (([rd l1 x13_4] : List Int) : List Int)).bind fun y627 => (if t623.length + y627.length < 17592186044416 then ((some (([(t623 ++ y627)] : List (List Int)) : List (List Int))).bind fun y633 => (if x10_4.length + y633.length < 5864062014805 then (spec_ShortestInputs.l1 k4 l1 a2 (x9_4 ++ y616) (x10_4 ++ y633) x11_3 t609 (wrap64 (x13_4 + 1))) else (none))) else (none))) else (none))) else (none)) else (none)) else (none)) = some (r1, r2) := by first | (rw [hy616]; with_reducible exact H) | (have H2_ := (Option.bind_some _ _).symm.trans H; rw [hy616]; with_reducible exact H2_) | (have H2_ := (Option.bind_some _ _).symm.trans H; with_reducible exact H2_) | with_reducible exact H | (rw [hy616]; exact H) | exact H
                 have Ny616 := jA hy616
                 clear hy616
                 by_cases c41 : x9_4.length + y616.length < 17592186044416
                 ·rw [if_pos c41] at H
                  have LMc41 := jA c41
                  clear c41
                  obtain ⟨y619, hy619⟩ : ∃ y_ : List Int, y_ = (x9_4 ++ y616) := ⟨_, rfl⟩
                  replace H : (if 0 ≤ x11_3 then (if x11_3 < (x10_4.length : Int) then ((spec_l01Own.f (rd_L3 x10_4 x11_3)).bind fun t623 => (if x13_4 < (l1.length : Int) then ((some (([rd l1 x13_4] : List Int) : List Int)).bind fun y627 => (if t623.length + y627.length < 17592186044416 then ((some (([(t623 ++ y627)] : List (List Int)) : List (List Int))).bind fun y633 => (if x10_4.length + y633.length < 5864062014805 then (spec_ShortestInputs.l1 k4 l1 a2 y619 (x10_4 ++ y633) x11_3 t609 (wrap64 (x13_4 + 1))) else (none))) else (none))) else (none))) else (none)) else (none)) = some (r1, r2) := by first | (rw [hy619]; with_reducible exact H) | (have H2_ := (Option.bind_some _ _).symm.trans H; rw [hy619]; with_reducible exact H2_) | (have H2_ := (Option.bind_some _ _).symm.trans H; with_reducible exact H2_) | with_reducible exact H | (rw [hy619]; exact H) | exact H
                  have Ny619 := jA hy619
                  clear hy619
                  by_cases c42 : 0 ≤ x11_3
                  ·rw [if_pos c42] at H
                   have c42b0 : decide (0 ≤ x11_3) = true := jJ c42
                   clear c42
                   by_cases c43 : x11_3 < (x10_4.length : Int)
                   ·rw [if_pos c43] at H
                    have c43b0 : decide (x11_3 < (x10_4.length : Int)) = true := jJ c43
                    clear c43
                    replace H := jD.mp H
                    obtain ⟨t623, A440, H⟩ := H
                    replace H : (if x13_4 < (l1.length : Int) then ((some (([rd l1 x13_4] : List Int) : List Int)).bind fun y627 => (if t623.length + y627.length < 17592186044416 then ((some (([(t623 ++ y627)] : List (List Int)) : List (List Int))).bind fun y633 => (if x10_4.length + y633.length < 5864062014805 then (spec_ShortestInputs.l1 k4 l1 a2 y619 (x10_4 ++ y633) x11_3 t609 (wrap64 (x13_4 + 1))) else (none))) else (none))) else (none)) = some (r1, r2) := H
                    have A44 := jA A440
                    clear A440
                    by_cases c45 : x13_4 < (l1.length : Int)
                    ·rw [if_pos c45] at H
                     have c45b0 : decide (x13_4 < (l1.length : Int)) = true := jJ c45
                     clear c45
                     obtain ⟨y627, hy627⟩ : ∃ y_ : List Int, y_ = (([rd l1 x13_4] : List Int)) := ⟨_, rfl⟩
                     replace H : (if t623.length + y627.length < 17592186044416 then ((some (([(t623 ++ y627)] : List (List Int)) : List (List Int))).bind fun y633 => (if x10_4.length + y633.length < 5864062014805 then (spec_ShortestInputs.l1 k4 l1 a2 y619 (x10_4 ++ y633) x11_3 t609 (wrap64 (x13_4 + 1))) else (none))) else (none)) = some (r1, r2) := by first | (rw [hy627]; with_reducible exact H) | (have H2_ := (Option.bind_some _ _).symm.trans H; rw [hy627]; with_reducible exact H2_) | (have H2_ := (Option.bind_some _ _).symm.trans H; with_reducible exact H2_) | with_reducible exact H | (rw [hy627]; exact H) | exact H
                     have Ny627 := jA hy627
                     clear hy627
                     by_cases c46 : t623.length + y627.length < 17592186044416
                     ·rw [if_pos c46] at H
                      have LMc46 := jA c46
                      clear c46
                      obtain ⟨y630, hy630⟩ : ∃ y_ : List Int, y_ = (t623 ++ y627) := ⟨_, rfl⟩
                      replace H : ((some (([y630] : List (List Int)) : List (List Int))).bind fun y633 => (if x10_4.length + y633.length < 5864062014805 then (spec_ShortestInputs.l1 k4 l1 a2 y619 (x10_4 ++ y633) x11_3 t609 (wrap64 (x13_4 + 1))) else (none))) = some (r1, r2) := by first | (rw [hy630]; with_reducible exact H) | (have H2_ := (Option.bind_some _ _).symm.trans H; rw [hy630]; with_reducible exact H2_) | (have H2_ := (Option.bind_some _ _).symm.trans H; with_reducible exact H2_) | with_reducible exact H | (rw [hy630]; exact H) | exact H
                      have Ny630 := jA hy630
                      clear hy630
                      obtain ⟨y633, hy633⟩ : ∃ y_ : List (List Int), y_ = (([y630] : List (List Int))) := ⟨_, rfl⟩
                      replace H : (if x10_4.length + y633.length < 5864062014805 then (spec_ShortestInputs.l1 k4 l1 a2 y619 (x10_4 ++ y633) x11_3 t609 (wrap64 (x13_4 + 1))) else (none)) = some (r1, r2) := by first | (rw [hy633]; with_reducible exact H) | (have H2_ := (Option.bind_some _ _).symm.trans H; rw [hy633]; with_reducible exact H2_) | (have H2_ := (Option.bind_some _ _).symm.trans H; with_reducible exact H2_) | with_reducible exact H | (rw [hy633]; exact H) | exact H
                      have Ny633 := jA hy633
                      clear hy633
                      by_cases c47 : x10_4.length + y633.length < 5864062014805
                      ·rw [if_pos c47] at H
                       have LMc47 := jA c47
                       clear c47
                       obtain ⟨y636, hy636⟩ : ∃ y_ : List (List Int), y_ = (x10_4 ++ y633) := ⟨_, rfl⟩
                       replace H : (spec_ShortestInputs.l1 k4 l1 a2 y619 y636 x11_3 t609 (wrap64 (x13_4 + 1))) = some (r1, r2) := by first | (rw [hy636]; with_reducible exact H) | (have H2_ := (Option.bind_some _ _).symm.trans H; rw [hy636]; with_reducible exact H2_) | (have H2_ := (Option.bind_some _ _).symm.trans H; with_reducible exact H2_) | with_reducible exact H | (rw [hy636]; exact H) | exact H
                       have Ny636 := jA hy636
                       clear hy636
                       have H' := jA H
                       clear H
                       obtain ⟨Ao48, co48, eo48⟩ := Kd.R_slice HO_12.out
                       subst eo48
                       have p612 : 0 ≤ (x13_4 : Int) := jB za
                       have q612 : x13_4 < (t609.length : Int) := jB za
                       obtain ⟨ad612, e612, hx612_0⟩ := jR (jO HO_12.out).2.2 x13_4 p612 q612
                       cases e612
                       replace p612 := eq_true p612
                       replace q612 := eq_true q612
                       have p613 : 0 ≤ (x13_4 : Int) := jB za
                       have q613 : x13_4 < (t609.length : Int) := jB za
                       obtain ⟨ad613, e613, hx613_0⟩ := jR (jO HO_12.out).2.2 x13_4 p613 q613
                       obtain rfl : ad612 = ad613 := (by injection e613)
                       replace p613 := eq_true p613
                       replace q613 := eq_true q613
                       obtain ⟨Ao49, co49, eo49⟩ := Kd.R_slice HO_9.out
                       subst eo49
                       try go_wp2_with (first | (go_at_call 72; (with_reducible refine (spec_l01Has.calls k4 _ _ x9_4 (rd t609 x13_4) false _ ?side1 ?side2 A37.out).mono ?_); (case side1 => exact zv HO_9); (case side2 => exact (jO HO_9.out).2.1); rintro e w' ⟨rfl, ⟨nd, rfl⟩⟩; have p615 : 0 ≤ (x13_4 : Int) := jB za; have q615 : x13_4 < (t609.length : Int) := jB za; obtain ⟨ad615, e615, hx615_0⟩ := jR (jO HO_12.out).2.2 x13_4 p615 q615; obtain rfl : ad612 = ad615 := (by injection e615); replace p615 := eq_true p615; replace q615 := eq_true q615) | ((with_reducible refine jK (N := 79) rfl ?_); refine Kd.R_lit (Kd.int .i64) _ 2 ?hg (N := 79) ?hd (xs := ([rd t609 x13_4] : List Int)) (inner := [.int .i64 (rd t609 x13_4)]) (ok := fun _ => True) (okp := fun _ => True) ?hr ?hp (fun _ hk => hk) trivial (Below.refl _ _) (Nat.le_refl _) (by simp) ?_; (case hd => rfl); (case hg => rfl); (case hr => first | (go_simp; done) | (go_simp; rfl)); (case hp => exact (Reps.one (show Kd.M (Kd.int .i64) _ _ _ (rd t609 x13_4) [.int .i64 (rd t609 x13_4)] from rfl) (Reps.none _ _))); intro v617 w50 ho51 hb hg_ hnew_; clear hg_ hnew_; (first | rw [← Ny616.out] at ho51 | (simp only [Int.reduceToNat] at ho51; rw [← Ny616.out] at ho51)); replace HO_10 := jA (Kd.N_elder' (by (with_reducible repeat (first | apply Kd.N_alloc | apply Kd.N_drewN | apply Kd.N_drew)); exact HO_10.out) (Kd.R_base ho51) hb); have HO618 := jA (jZ (Kd.R_new' (Kd.R_new' (Kd.R_newM (M := fun k_ => (w.heap.size ≤ k_)) ho51 (jP (zb1 HB GE593)) (fun k_ h_ => h_)) (Kd.R_lt (zo HO_9))) (Kd.R_lt (zo HO_12))) (jP (zb1 HB GE593))); replace HO_9 := jA (Kd.R_elder' (zo HO_9) (Kd.R_base ho51) hb); replace HO_12 := jA (Kd.R_elder' (zo HO_12) (Kd.R_base ho51) hb); replace BK593 := zB BK593 hb; replace HB := zS1 HB GE593 hb; clear hb ho51; obtain ⟨Ao53, co53, eo53⟩ := Kd.R_slice HO618.out; subst eo53) | ((with_reducible refine gate_builtin (b := .append) (xs := #[.tmp 74, .tmp 79]) rfl ?_); at_builtin; refine Kd.R_append_rows (Kd.int .i64) (w0 := w) w.heap.size rfl (.tmp 74) (.tmp 79) 35 2 (.int .i64 0) 8 rfl Try.underlying35 info2 rfl (by decide) (by omega) (.slice Ao49 x9_4.length co49) x9_4 y616 _ _ _ (fun k_ => (w.heap.size ≤ k_) ∧ some k_ ≠ (.slice (some ad612) t609.length co48 : Value).ownBlock ∧ some k_ ≠ (.slice Ao53 y616.length co53 : Value).ownBlock) (fun _ => False) rfl rfl ?aO ?aR (fun _ _ h => h) (fun _ h => h.elim) ?aF ?aB ?aS ?aL ?_; (case aR => repeat (first | exact (jO HO618.out).2.2 | (with_reducible refine Kd.C_alloc ?_ _) | (with_reducible refine Kd.C_drewN ?_ _) | (with_reducible refine Kd.C_drew ?_))); (case aB => exact (zb1 HB GE593)); (case aF => exact (fun k_ hk => ⟨(Nat.le_trans (jP (zb1 HB GE593)) hk), Kd.fresh' (Kd.R_lt (zo HO_12)) k_ hk, Kd.fresh' (Kd.R_lt (zo HO618)) k_ hk⟩)); (case aO => exact (by (with_reducible repeat (first | apply jV | apply jU | apply jS)); exact Kd.R_mono HO_9.out (fun _ hk => ⟨hk.1.1, ⟨hk.1.2, hk.2⟩⟩))); (case aS => exact (jP (zb1 HB GE593))); (case aL => have := LMc41.out; omega); intro v620 w52 ho hb hg hat; rw [← Ny619.out] at ho; replace HO_10 := jA (Kd.N_afterv (ok := (fun k_ => (w.heap.size ≤ k_) ∧ some k_ ≠ (.slice (some ad612) t609.length co48 : Value).ownBlock ∧ some k_ ≠ (.slice Ao53 y616.length co53 : Value).ownBlock ∧ k_ ≠ gb593)) (by (with_reducible repeat (first | apply Kd.N_alloc | apply Kd.N_drewN | apply Kd.N_drew)); exact Kd.N_mono HO_10.out (fun _ hk => ⟨⟨hk.1.1, ⟨hk.1.2.2.1, ⟨hk.2, hk.1.2.2.2⟩⟩⟩, hk.1.2.1⟩)) hg hat); replace HO_12 := jA (Kd.R_after (ok := (fun k_ => (w.heap.size ≤ k_) ∧ some k_ ≠ (.slice Ao53 y616.length co53 : Value).ownBlock)) (by (with_reducible repeat (first | apply jV | apply jU | apply jS)); exact Kd.R_mono HO_12.out (fun _ hk => ⟨⟨hk.1.1, hk.2⟩, hk.1.2⟩)) hg hat); replace BK593 := jA (blk_grown (g := gb593) (o := .cells #[.bool a0_0, .bool a0_1, .bool a0_2, .bool a0_3, .bool a0_4, .int .i64 a0_5] 23 (0, 0)) (zk BK593) hg (Kd.R_ne HO_9.out BK593.out (by decide))); replace HO618 := jA (Kd.R_after (ok := (fun k_ => (w.heap.size ≤ k_) ∧ some k_ ≠ (.slice (some ad612) t609.length co48 : Value).ownBlock)) (by (with_reducible repeat (first | apply jV | apply jU | apply jS)); exact Kd.R_mono HO618.out (fun _ hk => ⟨⟨hk.1.1.1, hk.2⟩, hk.1.2⟩)) hg hat); replace HB := jA (hb); have HO621 := jA (ho); clear HO_9; clear ho hb hg hat; obtain ⟨Ao54, co54, eo54⟩ := Kd.N_slice HO_10.out; subst eo54))
                       replace HO_10 := jA (Kd.N_drew HO_10.out)
                       replace HO_12 := jA (jS HO_12.out)
                       replace HO618 := jA (jS HO618.out)
                       replace HO621 := jA (jS HO621.out)
                       replace BK593 := jA (blk_drew BK593.out)
                       replace HB := jA (below_drew1 HB.out)
                       have p622 : 0 ≤ (x11_3 : Int) := jB za
                       have q622 : x11_3 < (x10_4.length : Int) := jB za
                       obtain ⟨ad622, A622_0, c622_0, e622, hx622_0, hl622_0, hi622_0⟩ := at_L3 (Kd.N_reads' HO_10.out).2.2 x11_3 p622 q622
                       cases e622
                       obtain ⟨ce622, hce622, hMe622, hcc622⟩ := Kd.N_get HO_10.out [] x11_3 p622 (by first | exact q622 | exact jB za | (have e_ := (Kd.N_reads' HO_10.out).1; omega))
                       obtain ⟨ua622_0, uc622_0, rfl, ul622_0, ge622_0⟩ := Kd.FK_slice_open hMe622
                       have hv622_0 := hcc622 0 _ rfl
                       rw [Nat.add_zero, show ((Kd.slice 2 (Kd.int .i64))).sz = 1 from rfl, Nat.mul_one] at hv622_0
                       replace hv622_0 := jN (hv622_0.symm.trans hx622_0)
                       injection hv622_0 with hva_ hvn_ hvc_
                       rw [hva_] at ge622_0
                       rw [hvc_] at ul622_0
                       have HL622_0 := jA (show Kd.V (Kd.int .i64) 2 _ w.heap.size _ _ (rd_L3 x10_4 x11_3) from Kd.V_mk ul622_0 ge622_0)
                       clear hva_ hvn_ hvc_ ge622_0 ul622_0
                       clear hcc622 hce622
                       have HR622_0 := jA hi622_0
                       have HC622_0 := jA hl622_0
                       clear hi622_0 hl622_0
                       replace p622 := eq_true p622
                       replace q622 := eq_true q622
                       have p626 : 0 ≤ (x13_4 : Int) := jB za
                       have q626 : x13_4 < (l1.length : Int) := jB za
                       obtain ⟨ad626, e626, hx626_0⟩ := jR HR1.out x13_4 p626 q626
                       have hw626_0 := hx626_0
                       cases e626
                       replace hx626_0 := zx HB hx626_0
                       replace p626 := eq_true p626
                       replace q626 := eq_true q626
                       refine start_ (n := 15) (S := fun w' => w'.cell? (ad622.add (x11_3).toNat) = some (.slice A622_0 (rd_L3 x10_4 x11_3).length c622_0) ∧ w'.cell? (ad626.add (x13_4).toNat) = some (.int .i64 (rd l1 x13_4))) (ds := [11, 12, 13]) #[false, false, false, false, false, false, false, false, false, false, false, false, false, false, false] zr rfl rfl ⟨hx622_0, (zx HB hw626_0)⟩ (fun hHeld => ?_); refine with_tabW spec_ShortestInputs.tab19 spec_ShortestInputs.bits19 (fun HT_ HW_ => ?_)
                       generalize w52.drew = w55 at HO_10 HO_12 HO618 HO621 BK593 HB HL622_0 HR622_0 hx622_0 hx626_0 hHeld ⊢
                       refine zp HT_ 0 81 #[true, false, false, false, false, false, false, false, false, false, false, false, false, false, false] ?_
                       refine zp HT_ 1 82 #[true, true, false, false, false, false, false, false, false, false, false, false, false, false, false] ?_
                       refine zp HT_ 2 83 #[true, true, true, false, false, false, false, false, false, false, false, false, false, false, false] ?_
                       refine zp HT_ 3 84 #[true, true, true, true, false, false, false, false, false, false, false, false, false, false, false] ?_
                       refine zp HT_ 6 87 #[true, true, true, true, false, false, true, false, false, false, false, false, false, false, false] ?_
                       refine zp HT_ 7 88 #[true, true, true, true, false, false, true, true, false, false, false, false, false, false, false] ?_
                       refine zp HT_ 8 89 #[true, true, true, true, false, false, true, true, true, false, false, false, false, false, false] ?_
                       refine zt2 HT_ HW_ hHeld 4 85 #[true, true, true, true, true, false, true, true, true, false, false, false, false, false, false] ?_
                       refine zt2 HT_ HW_ hHeld 9 90 #[true, true, true, true, true, false, true, true, true, true, false, false, false, false, false] ?_
                       refine join_ (σ := Value × Value) 4 m15_7ff0 (fun s_ => [(86, s_.1), (91, s_.2)]) (fun s_ w' => (w'.cell? (ad622.add (x11_3).toNat) = some (.slice A622_0 (rd_L3 x10_4 x11_3).length c622_0) ∧ w'.cell? (ad626.add (x13_4).toNat) = some (.int .i64 (rd l1 x13_4))) ∧ (Kd.V (Kd.int .i64) 2 w' w.heap.size (fun k_ => (w.heap.size ≤ k_) ∧ some k_ ≠ (.slice Ao53 y616.length co53 : Value).ownBlock ∧ some k_ ≠ (v620 : Value).ownBlock ∧ some k_ ≠ (s_.1 : Value).ownBlock ∧ some k_ ≠ (s_.2 : Value).ownBlock ∧ some k_ ≠ (.slice (some ad622) x10_4.length co54 : Value).ownBlock ∧ some k_ ≠ (.slice (some ad612) t609.length co48 : Value).ownBlock ∧ k_ ≠ gb593) (.slice A622_0 (rd_L3 x10_4 x11_3).length c622_0) (rd_L3 x10_4 x11_3)) ∧ (Kd.R (Kd.int .i64) 2 w' w.heap.size (fun k_ => (w.heap.size ≤ k_) ∧ some k_ ≠ (v620 : Value).ownBlock ∧ some k_ ≠ (s_.1 : Value).ownBlock ∧ some k_ ≠ (s_.2 : Value).ownBlock ∧ some k_ ≠ (.slice (some ad612) t609.length co48 : Value).ownBlock) (.slice Ao53 y616.length co53) y616) ∧ (Kd.R (Kd.int .i64) 2 w' w.heap.size (fun k_ => (w.heap.size ≤ k_) ∧ some k_ ≠ (.slice Ao53 y616.length co53 : Value).ownBlock ∧ some k_ ≠ (s_.1 : Value).ownBlock ∧ some k_ ≠ (s_.2 : Value).ownBlock ∧ some k_ ≠ (.slice (some ad612) t609.length co48 : Value).ownBlock) v620 y619) ∧ (Kd.R (Kd.int .i64) 2 w' w.heap.size (fun k_ => (w.heap.size ≤ k_) ∧ some k_ ≠ (.slice Ao53 y616.length co53 : Value).ownBlock ∧ some k_ ≠ (v620 : Value).ownBlock ∧ some k_ ≠ (s_.2 : Value).ownBlock ∧ some k_ ≠ (.slice (some ad612) t609.length co48 : Value).ownBlock) s_.1 t623) ∧ (Kd.R (Kd.int .i64) 2 w' w.heap.size (fun k_ => (w.heap.size ≤ k_) ∧ some k_ ≠ (.slice Ao53 y616.length co53 : Value).ownBlock ∧ some k_ ≠ (v620 : Value).ownBlock ∧ some k_ ≠ (s_.1 : Value).ownBlock ∧ some k_ ≠ (.slice (some ad612) t609.length co48 : Value).ownBlock) s_.2 y627) ∧ (Kd.N (Kd.slice 2 (Kd.int .i64)) 35 w' w.heap.size (fun k_ => (w.heap.size ≤ k_) ∧ some k_ ≠ (.slice Ao53 y616.length co53 : Value).ownBlock ∧ some k_ ≠ (v620 : Value).ownBlock ∧ some k_ ≠ (s_.1 : Value).ownBlock ∧ some k_ ≠ (s_.2 : Value).ownBlock ∧ some k_ ≠ (.slice (some ad612) t609.length co48 : Value).ownBlock ∧ k_ ≠ gb593) (.slice (some ad622) x10_4.length co54) x10_4) ∧ (Kd.R (Kd.int .i64) 2 w' w.heap.size (fun k_ => (w.heap.size ≤ k_) ∧ some k_ ≠ (.slice Ao53 y616.length co53 : Value).ownBlock ∧ some k_ ≠ (v620 : Value).ownBlock ∧ some k_ ≠ (s_.1 : Value).ownBlock ∧ some k_ ≠ (s_.2 : Value).ownBlock) (.slice (some ad612) t609.length co48) t609) ∧ (w'.heap[gb593]? = some (.cells #[.bool a0_0, .bool a0_1, .bool a0_2, .bool a0_3, .bool a0_4, .int .i64 a0_5] 23 (0, 0))) ∧ (Below w.heap.size w w')) ?_ ?_
                       rotate_left
                       ·intro hCont
                        refine two_ (i := 5) (j := 10) (Ni := some 86) (Nj := some 91) #[true, true, true, true, true, true, true, true, true, true, false, false, false, false, false] #[true, true, true, true, true, false, true, true, true, true, true, false, false, false, false] rfl rfl rfl rfl (two_of HT_.out zr) (by decide) (by decide) (fun K hK => ?_) (fun K hK => ?_)
                        ·skip
                         refine goes_ Try.func73 zr rfl #[.slice A622_0 (rd_L3 x10_4 x11_3).length c622_0] (by rfl) rfl rfl zm ?_
                         with_reducible refine (spec_l01Own.calls _ _ (rd_L3 x10_4 x11_3) t623 _ ?side1 ?side2 A44.out).mono ?_
                         (case side1 => repeat (first | exact (by repeat (first | (with_reducible exact HR622_0.out) | (with_reducible refine Kd.C_alloc ?_ _) | (with_reducible refine Kd.C_drewN ?_ _) | (with_reducible refine Kd.C_drew ?_) | exact HR622_0.out)) | (with_reducible refine Kd.C_alloc ?_ _) | (with_reducible refine Kd.C_drewN ?_ _) | (with_reducible refine Kd.C_drew ?_)))
                         (case side2 => exact HC622_0.out)
                         rintro e w56 ⟨v624, rfl, ho0, hb⟩
                         have HS0_ := (hb.cell (World.block_lt_of_cell? _ _ (hHeld.1))).trans (hHeld.1)
                         refine ⟨_, rfl, ?_⟩
                         replace HO_10 := jA (Kd.N_elder' (by (with_reducible repeat (first | apply Kd.N_alloc | apply Kd.N_drewN | apply Kd.N_drew)); exact HO_10.out) (Kd.R_base ho0) hb)
                         replace HL622_0 := jA (Kd.V_elder' (by (with_reducible repeat (first | apply Kd.V_alloc | apply Kd.V_drewN | apply Kd.V_drew)); exact HL622_0.out) (Kd.R_base ho0) hb)
                         have HO625 := jA (jZ (Kd.R_new' (Kd.R_new' (Kd.R_new' (Kd.R_newM (M := fun k_ => (w.heap.size ≤ k_)) ho0 (jP (zb1 HB GE593)) (fun k_ h_ => h_)) (Kd.R_lt (zo HO_12))) (Kd.R_lt (zo HO618))) (Kd.R_lt (zo HO621))) (jP (zb1 HB GE593)))
                         replace HO_12 := jA (Kd.R_elder' (zo HO_12) (Kd.R_base ho0) hb)
                         replace HO618 := jA (Kd.R_elder' (zo HO618) (Kd.R_base ho0) hb)
                         replace HO621 := jA (Kd.R_elder' (zo HO621) (Kd.R_base ho0) hb)
                         replace BK593 := zB BK593 hb
                         replace HR622_0 := jA (Kd.C_below (by repeat (first | (with_reducible exact HR622_0.out) | (with_reducible refine Kd.C_alloc ?_ _) | (with_reducible refine Kd.C_drewN ?_ _) | (with_reducible refine Kd.C_drew ?_) | exact HR622_0.out)) hb)
                         replace HB := zS1 HB GE593 hb
                         (try clear hb)
                         (try clear hb2)
                         (try clear hk)
                         (try clear hi)
                         (try clear ho0)
                         refine hK.out _ _ ⟨HS0_, (zx HB hw626_0)⟩ (fun hHeld => ?_)
                         clear hK K
                         refine norm_ (a' := ?_) ?_ ?_
                         rotate_left
                         ·show Act.put _ (some 86) _ = _
                          simp only [Act.put, jC, jE, jF, i64_w, i32_w]
                          rfl
                         refine one_ (i := 10) (N := some 91) m15_7ff0 rfl rfl (one_of HT_.out zr) (by decide) (fun K hK => ?_)
                         refine Kd.R_lit_step (Kd.int .i64) _ 2 ?hg (N := 91) ?hd (xs := ([rd l1 x13_4] : List Int)) (inner := [.int .i64 (rd l1 x13_4)]) (ok := fun _ => True) (okp := fun _ => True) ?hr ?hp (fun _ hk => hk) trivial (Below.refl _ _) (Nat.le_refl _) (by simp) ?_; (case hd => rfl); (case hg => rfl); (case hr => first | (go_simp; done) | (go_simp; rfl)); (case hp => exact (Reps.one (show Kd.M (Kd.int .i64) _ _ _ (rd l1 x13_4) [.int .i64 (rd l1 x13_4)] from rfl) (Reps.none _ _)))
                         intro v628 w57 ho58 hb hg_ hnew_
                         have HS0_ := (hb.cell (World.block_lt_of_cell? _ _ (hHeld.1))).trans (hHeld.1)
                         clear hg_ hnew_
                         (first | rw [← Ny627.out] at ho58 | (simp only [Int.reduceToNat] at ho58; rw [← Ny627.out] at ho58))
                         replace HO_10 := jA (Kd.N_elder' (by (with_reducible repeat (first | apply Kd.N_alloc | apply Kd.N_drewN | apply Kd.N_drew)); exact HO_10.out) (Kd.R_base ho58) hb)
                         replace HL622_0 := jA (Kd.V_elder' (by (with_reducible repeat (first | apply Kd.V_alloc | apply Kd.V_drewN | apply Kd.V_drew)); exact HL622_0.out) (Kd.R_base ho58) hb)
                         have HO629 := jA (jZ (Kd.R_new' (Kd.R_new' (Kd.R_new' (Kd.R_new' (Kd.R_newM (M := fun k_ => (w.heap.size ≤ k_)) ho58 (jP (zb1 HB GE593)) (fun k_ h_ => h_)) (Kd.R_lt (zo HO_12))) (Kd.R_lt (zo HO618))) (Kd.R_lt (zo HO621))) (Kd.R_lt (zo HO625))) (jP (zb1 HB GE593)))
                         replace HO_12 := jA (Kd.R_elder' (zo HO_12) (Kd.R_base ho58) hb)
                         replace HO618 := jA (Kd.R_elder' (zo HO618) (Kd.R_base ho58) hb)
                         replace HO621 := jA (Kd.R_elder' (zo HO621) (Kd.R_base ho58) hb)
                         replace HO625 := jA (Kd.R_elder' (zo HO625) (Kd.R_base ho58) hb)
                         replace BK593 := zB BK593 hb
                         replace HR622_0 := jA (Kd.C_below (by repeat (first | (with_reducible exact HR622_0.out) | (with_reducible refine Kd.C_alloc ?_ _) | (with_reducible refine Kd.C_drewN ?_ _) | (with_reducible refine Kd.C_drew ?_) | exact HR622_0.out)) hb)
                         replace HB := zS1 HB GE593 hb
                         clear hb ho58
                         refine hK.out _ _ ⟨HS0_, (zx HB hw626_0)⟩ (fun hHeld => ?_)
                         clear hK K
                         refine norm_ (a' := ?_) ?_ ?_
                         rotate_left
                         ·show Act.put _ (some 91) _ = _
                          simp only [Act.put, jC, jE, jF, i64_w, i32_w]
                          rfl
                         exact norm_ (by simp only [putAll, Act.put, jC, jE, jF]) (hCont (v624, v628) _ ⟨hHeld, (by (with_reducible repeat (first | apply Kd.V_alloc | apply Kd.V_drewN | apply Kd.V_drew)); exact Kd.V_mono HL622_0.out (fun _ hk => ⟨hk.1.1.1.1.1, ⟨hk.1.1.1.1.2.2.1, ⟨hk.1.1.1.2, ⟨hk.1.2, ⟨hk.2, ⟨hk.1.1.2, ⟨hk.1.1.1.1.2.1, hk.1.1.1.1.2.2.2⟩⟩⟩⟩⟩⟩⟩)), (by (with_reducible repeat (first | apply jV | apply jU | apply jS)); exact Kd.R_mono HO618.out (fun _ hk => ⟨hk.1.1.1.1, ⟨hk.1.1.2, ⟨hk.1.2, ⟨hk.2, hk.1.1.1.2⟩⟩⟩⟩)), (by (with_reducible repeat (first | apply jV | apply jU | apply jS)); exact Kd.R_mono HO621.out (fun _ hk => ⟨hk.1.1.1, ⟨hk.1.1.2.2, ⟨hk.1.2, ⟨hk.2, hk.1.1.2.1⟩⟩⟩⟩)), (by (with_reducible repeat (first | apply jV | apply jU | apply jS)); exact Kd.R_mono HO625.out (fun _ hk => ⟨hk.1.1.1.1.1, ⟨hk.1.1.2, ⟨hk.1.2, ⟨hk.2, hk.1.1.1.2⟩⟩⟩⟩)), (by (with_reducible repeat (first | apply jV | apply jU | apply jS)); exact Kd.R_mono HO629.out (fun _ hk => ⟨hk.1.1.1.1.1, ⟨hk.1.1.2, ⟨hk.1.2, ⟨hk.2, hk.1.1.1.2⟩⟩⟩⟩)), (by (with_reducible repeat (first | apply Kd.N_alloc | apply Kd.N_drewN | apply Kd.N_drew)); exact Kd.N_mono HO_10.out (fun _ hk => ⟨hk.1.1.1.1, ⟨hk.1.1.1.2.2.1, ⟨hk.1.1.2, ⟨hk.1.2, ⟨hk.2, ⟨hk.1.1.1.2.1, hk.1.1.1.2.2.2⟩⟩⟩⟩⟩⟩)), (by (with_reducible repeat (first | apply jV | apply jU | apply jS)); exact Kd.R_mono HO_12.out (fun _ hk => ⟨hk.1.1.1.1, ⟨hk.1.1.1.2, ⟨hk.1.1.2, ⟨hk.1.2, hk.2⟩⟩⟩⟩)), (zk BK593), (zb1 HB GE593)⟩)
                        ·skip
                         refine Kd.R_lit_step (Kd.int .i64) _ 2 ?hg (N := 91) ?hd (xs := ([rd l1 x13_4] : List Int)) (inner := [.int .i64 (rd l1 x13_4)]) (ok := fun _ => True) (okp := fun _ => True) ?hr ?hp (fun _ hk => hk) trivial (Below.refl _ _) (Nat.le_refl _) (by simp) ?_; (case hd => rfl); (case hg => rfl); (case hr => first | (go_simp; done) | (go_simp; rfl)); (case hp => exact (Reps.one (show Kd.M (Kd.int .i64) _ _ _ (rd l1 x13_4) [.int .i64 (rd l1 x13_4)] from rfl) (Reps.none _ _)))
                         intro v628 w56 ho57 hb hg_ hnew_
                         have HS0_ := (hb.cell (World.block_lt_of_cell? _ _ (hHeld.1))).trans (hHeld.1)
                         clear hg_ hnew_
                         (first | rw [← Ny627.out] at ho57 | (simp only [Int.reduceToNat] at ho57; rw [← Ny627.out] at ho57))
                         replace HO_10 := jA (Kd.N_elder' (by (with_reducible repeat (first | apply Kd.N_alloc | apply Kd.N_drewN | apply Kd.N_drew)); exact HO_10.out) (Kd.R_base ho57) hb)
                         replace HL622_0 := jA (Kd.V_elder' (by (with_reducible repeat (first | apply Kd.V_alloc | apply Kd.V_drewN | apply Kd.V_drew)); exact HL622_0.out) (Kd.R_base ho57) hb)
                         have HO629 := jA (jZ (Kd.R_new' (Kd.R_new' (Kd.R_new' (Kd.R_newM (M := fun k_ => (w.heap.size ≤ k_)) ho57 (jP (zb1 HB GE593)) (fun k_ h_ => h_)) (Kd.R_lt (zo HO_12))) (Kd.R_lt (zo HO618))) (Kd.R_lt (zo HO621))) (jP (zb1 HB GE593)))
                         replace HO_12 := jA (Kd.R_elder' (zo HO_12) (Kd.R_base ho57) hb)
                         replace HO618 := jA (Kd.R_elder' (zo HO618) (Kd.R_base ho57) hb)
                         replace HO621 := jA (Kd.R_elder' (zo HO621) (Kd.R_base ho57) hb)
                         replace BK593 := zB BK593 hb
                         replace HR622_0 := jA (Kd.C_below (by repeat (first | (with_reducible exact HR622_0.out) | (with_reducible refine Kd.C_alloc ?_ _) | (with_reducible refine Kd.C_drewN ?_ _) | (with_reducible refine Kd.C_drew ?_) | exact HR622_0.out)) hb)
                         replace HB := zS1 HB GE593 hb
                         clear hb ho57
                         refine hK.out _ _ ⟨HS0_, (zx HB hw626_0)⟩ (fun hHeld => ?_)
                         clear hK K
                         refine norm_ (a' := ?_) ?_ ?_
                         rotate_left
                         ·show Act.put _ (some 91) _ = _
                          simp only [Act.put, jC, jE, jF, i64_w, i32_w]
                          rfl
                         refine one_ (i := 5) (N := some 86) m15_7ff0 rfl rfl (one_of HT_.out zr) (by decide) (fun K hK => ?_)
                         refine goes_ Try.func73 zr rfl #[.slice A622_0 (rd_L3 x10_4 x11_3).length c622_0] (by rfl) rfl rfl zm ?_
                         with_reducible refine (spec_l01Own.calls _ _ (rd_L3 x10_4 x11_3) t623 _ ?side1 ?side2 A44.out).mono ?_
                         (case side1 => repeat (first | exact (by repeat (first | (with_reducible exact HR622_0.out) | (with_reducible refine Kd.C_alloc ?_ _) | (with_reducible refine Kd.C_drewN ?_ _) | (with_reducible refine Kd.C_drew ?_) | exact HR622_0.out)) | (with_reducible refine Kd.C_alloc ?_ _) | (with_reducible refine Kd.C_drewN ?_ _) | (with_reducible refine Kd.C_drew ?_)))
                         (case side2 => exact HC622_0.out)
                         rintro e w58 ⟨v624, rfl, ho0, hb⟩
                         have HS0_ := (hb.cell (World.block_lt_of_cell? _ _ (hHeld.1))).trans (hHeld.1)
                         refine ⟨_, rfl, ?_⟩
                         replace HO_10 := jA (Kd.N_elder' (by (with_reducible repeat (first | apply Kd.N_alloc | apply Kd.N_drewN | apply Kd.N_drew)); exact HO_10.out) (Kd.R_base ho0) hb)
                         replace HL622_0 := jA (Kd.V_elder' (by (with_reducible repeat (first | apply Kd.V_alloc | apply Kd.V_drewN | apply Kd.V_drew)); exact HL622_0.out) (Kd.R_base ho0) hb)
                         have HO625 := jA (jZ (Kd.R_new' (Kd.R_new' (Kd.R_new' (Kd.R_new' (Kd.R_newM (M := fun k_ => (w.heap.size ≤ k_)) ho0 (jP (zb1 HB GE593)) (fun k_ h_ => h_)) (Kd.R_lt (zo HO_12))) (Kd.R_lt (zo HO618))) (Kd.R_lt (zo HO621))) (Kd.R_lt (zo HO629))) (jP (zb1 HB GE593)))
                         replace HO_12 := jA (Kd.R_elder' (zo HO_12) (Kd.R_base ho0) hb)
                         replace HO618 := jA (Kd.R_elder' (zo HO618) (Kd.R_base ho0) hb)
                         replace HO621 := jA (Kd.R_elder' (zo HO621) (Kd.R_base ho0) hb)
                         replace HO629 := jA (Kd.R_elder' (zo HO629) (Kd.R_base ho0) hb)
                         replace BK593 := zB BK593 hb
                         replace HR622_0 := jA (Kd.C_below (by repeat (first | (with_reducible exact HR622_0.out) | (with_reducible refine Kd.C_alloc ?_ _) | (with_reducible refine Kd.C_drewN ?_ _) | (with_reducible refine Kd.C_drew ?_) | exact HR622_0.out)) hb)
                         replace HB := zS1 HB GE593 hb
                         (try clear hb)
                         (try clear hb2)
                         (try clear hk)
                         (try clear hi)
                         (try clear ho0)
                         refine hK.out _ _ ⟨HS0_, (zx HB hw626_0)⟩ (fun hHeld => ?_)
                         clear hK K
                         refine norm_ (a' := ?_) ?_ ?_
                         rotate_left
                         ·show Act.put _ (some 86) _ = _
                          simp only [Act.put, jC, jE, jF, i64_w, i32_w]
                          rfl
                         exact norm_ (by simp only [putAll, Act.put, jC, jE, jF]) (hCont (v624, v628) _ ⟨hHeld, (by (with_reducible repeat (first | apply Kd.V_alloc | apply Kd.V_drewN | apply Kd.V_drew)); exact Kd.V_mono HL622_0.out (fun _ hk => ⟨hk.1.1.1.1.1, ⟨hk.1.1.1.1.2.2.1, ⟨hk.1.1.1.2, ⟨hk.2, ⟨hk.1.2, ⟨hk.1.1.2, ⟨hk.1.1.1.1.2.1, hk.1.1.1.1.2.2.2⟩⟩⟩⟩⟩⟩⟩)), (by (with_reducible repeat (first | apply jV | apply jU | apply jS)); exact Kd.R_mono HO618.out (fun _ hk => ⟨hk.1.1.1.1, ⟨hk.1.1.2, ⟨hk.2, ⟨hk.1.2, hk.1.1.1.2⟩⟩⟩⟩)), (by (with_reducible repeat (first | apply jV | apply jU | apply jS)); exact Kd.R_mono HO621.out (fun _ hk => ⟨hk.1.1.1, ⟨hk.1.1.2.2, ⟨hk.2, ⟨hk.1.2, hk.1.1.2.1⟩⟩⟩⟩)), (by (with_reducible repeat (first | apply jV | apply jU | apply jS)); exact Kd.R_mono HO625.out (fun _ hk => ⟨hk.1.1.1.1.1, ⟨hk.1.1.2, ⟨hk.1.2, ⟨hk.2, hk.1.1.1.2⟩⟩⟩⟩)), (by (with_reducible repeat (first | apply jV | apply jU | apply jS)); exact Kd.R_mono HO629.out (fun _ hk => ⟨hk.1.1.1.1.1, ⟨hk.1.1.2, ⟨hk.1.2, ⟨hk.2, hk.1.1.1.2⟩⟩⟩⟩)), (by (with_reducible repeat (first | apply Kd.N_alloc | apply Kd.N_drewN | apply Kd.N_drew)); exact Kd.N_mono HO_10.out (fun _ hk => ⟨hk.1.1.1.1, ⟨hk.1.1.1.2.2.1, ⟨hk.1.1.2, ⟨hk.2, ⟨hk.1.2, ⟨hk.1.1.1.2.1, hk.1.1.1.2.2.2⟩⟩⟩⟩⟩⟩)), (by (with_reducible repeat (first | apply jV | apply jU | apply jS)); exact Kd.R_mono HO_12.out (fun _ hk => ⟨hk.1.1.1.1, ⟨hk.1.1.1.2, ⟨hk.1.1.2, ⟨hk.2, hk.1.2⟩⟩⟩⟩)), (zk BK593), (zb1 HB GE593)⟩)
                       rintro ⟨v624, v628⟩ w59 ⟨hS_, h0_, h1_, h2_, h3_, h4_, h5_, h6_, h7_, h8_⟩
                       have HL622_0 : Aside0 (Kd.V (Kd.int .i64) 2 w59 w.heap.size (fun k_ => (w.heap.size ≤ k_) ∧ some k_ ≠ (.slice Ao53 y616.length co53 : Value).ownBlock ∧ some k_ ≠ (v620 : Value).ownBlock ∧ some k_ ≠ (v624 : Value).ownBlock ∧ some k_ ≠ (v628 : Value).ownBlock ∧ some k_ ≠ (.slice (some ad622) x10_4.length co54 : Value).ownBlock ∧ some k_ ≠ (.slice (some ad612) t609.length co48 : Value).ownBlock ∧ k_ ≠ gb593) (.slice A622_0 (rd_L3 x10_4 x11_3).length c622_0) (rd_L3 x10_4 x11_3)) := ⟨h0_⟩
                       replace HO618 : Aside0 (Kd.R (Kd.int .i64) 2 w59 w.heap.size (fun k_ => (w.heap.size ≤ k_) ∧ some k_ ≠ (v620 : Value).ownBlock ∧ some k_ ≠ (v624 : Value).ownBlock ∧ some k_ ≠ (v628 : Value).ownBlock ∧ some k_ ≠ (.slice (some ad612) t609.length co48 : Value).ownBlock) (.slice Ao53 y616.length co53) y616) := ⟨h1_⟩
                       replace HO621 : Aside0 (Kd.R (Kd.int .i64) 2 w59 w.heap.size (fun k_ => (w.heap.size ≤ k_) ∧ some k_ ≠ (.slice Ao53 y616.length co53 : Value).ownBlock ∧ some k_ ≠ (v624 : Value).ownBlock ∧ some k_ ≠ (v628 : Value).ownBlock ∧ some k_ ≠ (.slice (some ad612) t609.length co48 : Value).ownBlock) v620 y619) := ⟨h2_⟩
                       have HO625 : Aside0 (Kd.R (Kd.int .i64) 2 w59 w.heap.size (fun k_ => (w.heap.size ≤ k_) ∧ some k_ ≠ (.slice Ao53 y616.length co53 : Value).ownBlock ∧ some k_ ≠ (v620 : Value).ownBlock ∧ some k_ ≠ (v628 : Value).ownBlock ∧ some k_ ≠ (.slice (some ad612) t609.length co48 : Value).ownBlock) v624 t623) := ⟨h3_⟩
                       have HO629 : Aside0 (Kd.R (Kd.int .i64) 2 w59 w.heap.size (fun k_ => (w.heap.size ≤ k_) ∧ some k_ ≠ (.slice Ao53 y616.length co53 : Value).ownBlock ∧ some k_ ≠ (v620 : Value).ownBlock ∧ some k_ ≠ (v624 : Value).ownBlock ∧ some k_ ≠ (.slice (some ad612) t609.length co48 : Value).ownBlock) v628 y627) := ⟨h4_⟩
                       replace HO_10 : Aside0 (Kd.N (Kd.slice 2 (Kd.int .i64)) 35 w59 w.heap.size (fun k_ => (w.heap.size ≤ k_) ∧ some k_ ≠ (.slice Ao53 y616.length co53 : Value).ownBlock ∧ some k_ ≠ (v620 : Value).ownBlock ∧ some k_ ≠ (v624 : Value).ownBlock ∧ some k_ ≠ (v628 : Value).ownBlock ∧ some k_ ≠ (.slice (some ad612) t609.length co48 : Value).ownBlock ∧ k_ ≠ gb593) (.slice (some ad622) x10_4.length co54) x10_4) := ⟨h5_⟩
                       replace HO_12 : Aside0 (Kd.R (Kd.int .i64) 2 w59 w.heap.size (fun k_ => (w.heap.size ≤ k_) ∧ some k_ ≠ (.slice Ao53 y616.length co53 : Value).ownBlock ∧ some k_ ≠ (v620 : Value).ownBlock ∧ some k_ ≠ (v624 : Value).ownBlock ∧ some k_ ≠ (v628 : Value).ownBlock) (.slice (some ad612) t609.length co48) t609) := ⟨h6_⟩
                       replace BK593 : Aside0 (w59.heap[gb593]? = some (.cells #[.bool a0_0, .bool a0_1, .bool a0_2, .bool a0_3, .bool a0_4, .int .i64 a0_5] 23 (0, 0))) := ⟨h7_⟩
                       replace HB : Aside0 (Below w.heap.size w w59) := ⟨h8_⟩
                       clear h0_ h1_ h2_ h3_ h4_ h5_ h6_ h7_ h8_
                       have hHeld : w59.cell? (ad622.add (x11_3).toNat) = some (.slice A622_0 (rd_L3 x10_4 x11_3).length c622_0) ∧ w59.cell? (ad626.add (x13_4).toNat) = some (.int .i64 (rd l1 x13_4)) := hS_
                       obtain ⟨Ao61, co61, eo61⟩ := Kd.R_slice HO629.out
                       (first | subst eo61 | (injection eo61 with f1_ f2_ f3_; have f4_ := f1_.symm; have f5_ := f3_.symm; clear f1_ f2_ f3_; subst f4_; subst f5_))
                       refine norm_ (a' := ?_) ?_ ?_
                       rotate_left
                       ·simp only [putAll, Act.put, jC, jE, jF]
                        rfl
                       refine last_ (i := 11) (N := some 92) #[true, true, true, true, true, true, true, true, true, true, true, true, false, false, false] rfl rfl (one_of HT_.out zr) (by decide) (fun K hK => ?_)
                       refine Kd.R_append_rows_step (Kd.int .i64) (w0 := w) w.heap.size (by rfl) (.tmp 86) (.tmp 91) 35 2 (.int .i64 0) 8 rfl Try.underlying35 info2 rfl (by decide) (by omega) v624 t623 y627 _ _ _ (fun k_ => (w.heap.size ≤ k_) ∧ some k_ ≠ (.slice (some ad612) t609.length co48 : Value).ownBlock ∧ some k_ ≠ (.slice Ao53 y616.length co53 : Value).ownBlock ∧ some k_ ≠ (v620 : Value).ownBlock ∧ some k_ ≠ (.slice Ao61 y627.length co61 : Value).ownBlock) (fun _ => False) rfl rfl ?aO ?aR (fun _ _ h => h) (fun _ h => h.elim) ?aF ?aB ?aS ?aL ?_
                       (case aR => repeat (first | exact (jO HO629.out).2.2 | (with_reducible refine Kd.C_alloc ?_ _) | (with_reducible refine Kd.C_drewN ?_ _) | (with_reducible refine Kd.C_drew ?_)))
                       (case aB => exact (zb1 HB GE593))
                       (case aF => exact (fun k_ hk => ⟨(Nat.le_trans (jP (zb1 HB GE593)) hk), Kd.fresh' (Kd.R_lt (zo HO_12)) k_ hk, Kd.fresh' (Kd.R_lt (zo HO618)) k_ hk, Kd.fresh' (Kd.R_lt (zo HO621)) k_ hk, Kd.fresh' (Kd.R_lt (zo HO629)) k_ hk⟩))
                       (case aO => exact (by (with_reducible repeat (first | apply jV | apply jU | apply jS)); exact Kd.R_mono HO625.out (fun _ hk => ⟨hk.1, ⟨hk.2.2.2.2, ⟨hk.2.1, ⟨hk.2.2.1, hk.2.2.2.1⟩⟩⟩⟩)))
                       (case aS => exact (jP (zb1 HB GE593)))
                       (case aL => have := LMc46.out; omega)
                       intro v631 w60 ho hb hg hat
                       rw [← Ny630.out] at ho
                       replace HO_10 := jA (Kd.N_afterv (ok := (fun k_ => (w.heap.size ≤ k_) ∧ some k_ ≠ (.slice (some ad612) t609.length co48 : Value).ownBlock ∧ some k_ ≠ (.slice Ao53 y616.length co53 : Value).ownBlock ∧ some k_ ≠ (v620 : Value).ownBlock ∧ some k_ ≠ (.slice Ao61 y627.length co61 : Value).ownBlock ∧ k_ ≠ gb593)) (by (with_reducible repeat (first | apply Kd.N_alloc | apply Kd.N_drewN | apply Kd.N_drew)); exact Kd.N_mono HO_10.out (fun _ hk => ⟨⟨hk.1, ⟨hk.2.2.2.2.2.1, ⟨hk.2.1, ⟨hk.2.2.1, ⟨hk.2.2.2.2.1, hk.2.2.2.2.2.2⟩⟩⟩⟩⟩, hk.2.2.2.1⟩)) hg hat)
                       replace HO_12 := jA (Kd.R_after (ok := (fun k_ => (w.heap.size ≤ k_) ∧ some k_ ≠ (.slice Ao53 y616.length co53 : Value).ownBlock ∧ some k_ ≠ (v620 : Value).ownBlock ∧ some k_ ≠ (.slice Ao61 y627.length co61 : Value).ownBlock)) (by (with_reducible repeat (first | apply jV | apply jU | apply jS)); exact Kd.R_mono HO_12.out (fun _ hk => ⟨⟨hk.1, ⟨hk.2.1, ⟨hk.2.2.1, hk.2.2.2.2⟩⟩⟩, hk.2.2.2.1⟩)) hg hat)
                       replace BK593 := jA (blk_grown (g := gb593) (o := .cells #[.bool a0_0, .bool a0_1, .bool a0_2, .bool a0_3, .bool a0_4, .int .i64 a0_5] 23 (0, 0)) (zk BK593) hg (Kd.R_ne HO625.out BK593.out (by decide)))
                       replace HO618 := jA (Kd.R_after (ok := (fun k_ => (w.heap.size ≤ k_) ∧ some k_ ≠ (.slice (some ad612) t609.length co48 : Value).ownBlock ∧ some k_ ≠ (v620 : Value).ownBlock ∧ some k_ ≠ (.slice Ao61 y627.length co61 : Value).ownBlock)) (by (with_reducible repeat (first | apply jV | apply jU | apply jS)); exact Kd.R_mono HO618.out (fun _ hk => ⟨⟨hk.1, ⟨hk.2.2.2.2, ⟨hk.2.1, hk.2.2.2.1⟩⟩⟩, hk.2.2.1⟩)) hg hat)
                       replace HO621 := jA (Kd.R_after (ok := (fun k_ => (w.heap.size ≤ k_) ∧ some k_ ≠ (.slice (some ad612) t609.length co48 : Value).ownBlock ∧ some k_ ≠ (.slice Ao53 y616.length co53 : Value).ownBlock ∧ some k_ ≠ (.slice Ao61 y627.length co61 : Value).ownBlock)) (by (with_reducible repeat (first | apply jV | apply jU | apply jS)); exact Kd.R_mono HO621.out (fun _ hk => ⟨⟨hk.1, ⟨hk.2.2.2.2, ⟨hk.2.1, hk.2.2.2.1⟩⟩⟩, hk.2.2.1⟩)) hg hat)
                       replace HL622_0 := jA (Kd.V_afterv (ok := (fun k_ => (w.heap.size ≤ k_) ∧ some k_ ≠ (.slice (some ad622) x10_4.length co54 : Value).ownBlock ∧ some k_ ≠ (.slice (some ad612) t609.length co48 : Value).ownBlock ∧ some k_ ≠ (.slice Ao53 y616.length co53 : Value).ownBlock ∧ some k_ ≠ (v620 : Value).ownBlock ∧ some k_ ≠ (.slice Ao61 y627.length co61 : Value).ownBlock ∧ k_ ≠ gb593)) (by (with_reducible repeat (first | apply Kd.V_alloc | apply Kd.V_drewN | apply Kd.V_drew)); exact Kd.V_mono HL622_0.out (fun _ hk => ⟨⟨hk.1, ⟨hk.2.2.2.2.2.1, ⟨hk.2.2.2.2.2.2.1, ⟨hk.2.1, ⟨hk.2.2.1, ⟨hk.2.2.2.2.1, hk.2.2.2.2.2.2.2⟩⟩⟩⟩⟩⟩, hk.2.2.2.1⟩)) hg hat)
                       replace HO629 := jA (Kd.R_after (ok := (fun k_ => (w.heap.size ≤ k_) ∧ some k_ ≠ (.slice (some ad612) t609.length co48 : Value).ownBlock ∧ some k_ ≠ (.slice Ao53 y616.length co53 : Value).ownBlock ∧ some k_ ≠ (v620 : Value).ownBlock)) (by (with_reducible repeat (first | apply jV | apply jU | apply jS)); exact Kd.R_mono HO629.out (fun _ hk => ⟨⟨hk.1, ⟨hk.2.2.2.2, ⟨hk.2.1, hk.2.2.1⟩⟩⟩, hk.2.2.2.1⟩)) hg hat)
                       replace HB := jA (hb)
                       have HO632 := jA (ho)
                       clear HO625
                       clear ho hb hg hat
                       obtain ⟨Ao62, co62, eo62⟩ := Kd.R_slice HO632.out
                       (first | subst eo62 | (injection eo62 with f1_ f2_ f3_; have f4_ := f1_.symm; have f5_ := f3_.symm; clear f1_ f2_ f3_; subst f4_; subst f5_))
                       refine hK.out _ _ ?_
                       clear hK K
                       refine norm_ (a' := ?_) ?_ ?_
                       rotate_left
                       ·show Act.put _ (some 92) _ = _
                        simp only [Act.put, jC, jE, jF, i64_w, i32_w]
                        rfl
                       refine last_ (i := 12) (N := some 93) #[true, true, true, true, true, true, true, true, true, true, true, true, true, false, false] rfl rfl (one_of HT_.out zr) (by decide) (fun K hK => ?_)
                       refine Kd.N_lit_step (Kd.slice 2 (Kd.int .i64)) _ 35 ?hg (N' := 93) ?hd (xs := ([y630] : List (List Int))) (inner := [.slice Ao62 y630.length co62]) (ok := (fun k_ => (w.heap.size ≤ k_) ∧ some k_ ≠ (.slice (some ad622) x10_4.length co54 : Value).ownBlock ∧ some k_ ≠ (.slice (some ad612) t609.length co48 : Value).ownBlock ∧ some k_ ≠ (.slice Ao53 y616.length co53 : Value).ownBlock ∧ some k_ ≠ (v620 : Value).ownBlock ∧ some k_ ≠ (.slice Ao61 y627.length co61 : Value).ownBlock ∧ k_ ≠ gb593)) (okp := (fun k_ => (w.heap.size ≤ k_) ∧ some k_ ≠ (.slice (some ad622) x10_4.length co54 : Value).ownBlock ∧ some k_ ≠ (.slice (some ad612) t609.length co48 : Value).ownBlock ∧ some k_ ≠ (.slice Ao53 y616.length co53 : Value).ownBlock ∧ some k_ ≠ (v620 : Value).ownBlock ∧ some k_ ≠ (.slice Ao61 y627.length co61 : Value).ownBlock ∧ k_ ≠ gb593)) ?hr ?hp (fun _ hk => hk) ((show ∀ k_, w60.heap.size ≤ k_ → (fun k_ => (w.heap.size ≤ k_) ∧ some k_ ≠ (.slice (some ad622) x10_4.length co54 : Value).ownBlock ∧ some k_ ≠ (.slice (some ad612) t609.length co48 : Value).ownBlock ∧ some k_ ≠ (.slice Ao53 y616.length co53 : Value).ownBlock ∧ some k_ ≠ (v620 : Value).ownBlock ∧ some k_ ≠ (.slice Ao61 y627.length co61 : Value).ownBlock ∧ k_ ≠ gb593) k_ from fun k_ hk => ⟨(Nat.le_trans (jP (zb1 HB GE593)) hk), Kd.fresh' (Kd.N_lt (by (with_reducible repeat (first | apply Kd.N_alloc | apply Kd.N_drewN | apply Kd.N_drew)); exact HO_10.out)) k_ hk, Kd.fresh' (Kd.R_lt (zo HO_12)) k_ hk, Kd.fresh' (Kd.R_lt (zo HO618)) k_ hk, Kd.fresh' (Kd.R_lt (zo HO621)) k_ hk, Kd.fresh' (Kd.R_lt (zo HO629)) k_ hk, Kd.freshB (g := gb593) (o := .cells #[.bool a0_0, .bool a0_1, .bool a0_2, .bool a0_3, .bool a0_4, .int .i64 a0_5] 23 (0, 0)) (zk BK593) k_ hk⟩) _ (Nat.le_refl _)) (Below.refl _ _) (Nat.le_refl _) (by simp) ?_; (case hd => rfl); (case hg => rfl); (case hr => first | (go_simp; done) | (go_simp; rfl)); (case hp => exact (Reps.one (show Kd.FK (Kd.slice 2 (Kd.int .i64)) _ _ y630 [.slice Ao62 y630.length co62] from (Kd.FK_slice_mk (jO (Kd.R_mono (ok' := (fun k_ => (w.heap.size ≤ k_) ∧ some k_ ≠ (.slice (some ad622) x10_4.length co54 : Value).ownBlock ∧ some k_ ≠ (.slice (some ad612) t609.length co48 : Value).ownBlock ∧ some k_ ≠ (.slice Ao53 y616.length co53 : Value).ownBlock ∧ some k_ ≠ (v620 : Value).ownBlock ∧ some k_ ≠ (.slice Ao61 y627.length co61 : Value).ownBlock ∧ k_ ≠ gb593)) (Kd.R_types (Kd.R_apart' (HO632.out) (Kd.N_typed HO_10.out) (by decide)) BK593.out (by decide)) (fun k_ hk => ⟨hk.1.1.1, ⟨hk.1.2, ⟨hk.1.1.2.1, ⟨hk.1.1.2.2.1, ⟨hk.1.1.2.2.2.1, ⟨hk.1.1.2.2.2.2, hk.2⟩⟩⟩⟩⟩⟩))).2.1 (Kd.R_F (Kd.R_mono (ok' := (fun k_ => (w.heap.size ≤ k_) ∧ some k_ ≠ (.slice (some ad622) x10_4.length co54 : Value).ownBlock ∧ some k_ ≠ (.slice (some ad612) t609.length co48 : Value).ownBlock ∧ some k_ ≠ (.slice Ao53 y616.length co53 : Value).ownBlock ∧ some k_ ≠ (v620 : Value).ownBlock ∧ some k_ ≠ (.slice Ao61 y627.length co61 : Value).ownBlock ∧ k_ ≠ gb593)) (Kd.R_types (Kd.R_apart' (HO632.out) (Kd.N_typed HO_10.out) (by decide)) BK593.out (by decide)) (fun k_ hk => ⟨hk.1.1.1, ⟨hk.1.2, ⟨hk.1.1.2.1, ⟨hk.1.1.2.2.1, ⟨hk.1.1.2.2.2.1, ⟨hk.1.1.2.2.2.2, hk.2⟩⟩⟩⟩⟩⟩))))) (Reps.none _ _)))
                       intro v634 w63 ho64 hb hg_ hnew_
                       clear hg_ hnew_
                       (first | rw [← Ny633.out] at ho64 | (simp only [Int.reduceToNat] at ho64; rw [← Ny633.out] at ho64))
                       replace HO_10 := jA (Kd.N_elder' (by (with_reducible repeat (first | apply Kd.N_alloc | apply Kd.N_drewN | apply Kd.N_drew)); exact HO_10.out) (Kd.N_base ho64) hb)
                       replace HO_12 := jA (jQ (zo HO_12) hb)
                       replace HO618 := jA (jQ (zo HO618) hb)
                       replace HO621 := jA (jQ (zo HO621) hb)
                       replace HL622_0 := jA (Kd.V_elder' (by (with_reducible repeat (first | apply Kd.V_alloc | apply Kd.V_drewN | apply Kd.V_drew)); exact HL622_0.out) (Kd.N_base ho64) hb)
                       replace HO629 := jA (jQ (zo HO629) hb)
                       have HO635 := jA (Kd.N_lower ho64 (jP (zb1 HB GE593)))
                       replace BK593 := zB BK593 hb
                       replace HB := zS1 HB GE593 hb
                       clear HO632
                       clear hb ho64
                       obtain ⟨Ao66, co66, eo66⟩ := Kd.N_slice HO635.out
                       (first | subst eo66 | (injection eo66 with f1_ f2_ f3_; have f4_ := f1_.symm; have f5_ := f3_.symm; clear f1_ f2_ f3_; subst f4_; subst f5_))
                       refine hK.out _ _ ?_
                       clear hK K
                       refine norm_ (a' := ?_) ?_ ?_
                       rotate_left
                       ·show Act.put _ (some 93) _ = _
                        simp only [Act.put, jC, jE, jF, i64_w, i32_w]
                        rfl
                       refine last_ (i := 13) (N := some 94) #[true, true, true, true, true, true, true, true, true, true, true, true, true, true, false] rfl rfl (one_of HT_.out zr) (by decide) (fun K hK => ?_)
                       refine Kd.N_append_rows_step (Kd.slice 2 (Kd.int .i64)) (w0 := w) w.heap.size (by rfl) (.tmp 81) (.tmp 93) 81 35 (.slice none 0 0) 24 rfl Try.underlying81 info35 rfl (by decide) (by omega) (.slice (some ad622) x10_4.length co54) x10_4 y633 _ _ _ (fun k_ => (w.heap.size ≤ k_) ∧ some k_ ≠ (.slice (some ad612) t609.length co48 : Value).ownBlock ∧ some k_ ≠ (.slice Ao53 y616.length co53 : Value).ownBlock ∧ some k_ ≠ (v620 : Value).ownBlock ∧ some k_ ≠ (.slice Ao61 y627.length co61 : Value).ownBlock ∧ k_ ≠ gb593) (fun k_ => ((fun k_ => (w.heap.size ≤ k_) ∧ some k_ ≠ (.slice (some ad612) t609.length co48 : Value).ownBlock ∧ some k_ ≠ (.slice Ao53 y616.length co53 : Value).ownBlock ∧ some k_ ≠ (v620 : Value).ownBlock ∧ some k_ ≠ (.slice Ao61 y627.length co61 : Value).ownBlock ∧ k_ ≠ gb593)) k_ ∧ some k_ ≠ (.slice (some ad622) x10_4.length co54 : Value).ownBlock) rfl rfl ?aO ?aR (fun _ hk => hk) ?aF ?aB ?aS ?aL ?_
                       (case aR => exact (by skip; exact Kd.N_F (Kd.N_mono (ok' := (fun k_ => ((fun k_ => (w.heap.size ≤ k_) ∧ some k_ ≠ (.slice (some ad612) t609.length co48 : Value).ownBlock ∧ some k_ ≠ (.slice Ao53 y616.length co53 : Value).ownBlock ∧ some k_ ≠ (v620 : Value).ownBlock ∧ some k_ ≠ (.slice Ao61 y627.length co61 : Value).ownBlock ∧ k_ ≠ gb593)) k_ ∧ some k_ ≠ (.slice (some ad622) x10_4.length co54 : Value).ownBlock)) (HO635.out) (fun k_ hk => ⟨⟨hk.1, ⟨hk.2.2.1, ⟨hk.2.2.2.1, ⟨hk.2.2.2.2.1, ⟨hk.2.2.2.2.2.1, hk.2.2.2.2.2.2⟩⟩⟩⟩⟩, hk.2.1⟩))))
                       (case aB => exact (zb1 HB GE593))
                       (case aF => exact (fun k_ hk => ⟨(Nat.le_trans (jP (zb1 HB GE593)) hk), Kd.fresh' (Kd.R_lt (zo HO_12)) k_ hk, Kd.fresh' (Kd.R_lt (zo HO618)) k_ hk, Kd.fresh' (Kd.R_lt (zo HO621)) k_ hk, Kd.fresh' (Kd.R_lt (zo HO629)) k_ hk, Kd.freshB (g := gb593) (o := .cells #[.bool a0_0, .bool a0_1, .bool a0_2, .bool a0_3, .bool a0_4, .int .i64 a0_5] 23 (0, 0)) (zk BK593) k_ hk⟩))
                       (case aO => exact (by (with_reducible repeat (first | apply Kd.N_alloc | apply Kd.N_drewN | apply Kd.N_drew)); exact Kd.N_mono HO_10.out (fun _ hk => ⟨hk.1.1.1, ⟨hk.1.1.2.1, ⟨hk.1.1.2.2.1, ⟨hk.1.1.2.2.2.1, ⟨hk.1.1.2.2.2.2.1, hk.1.1.2.2.2.2.2⟩⟩⟩⟩⟩)))
                       (case aS => exact (jP (zb1 HB GE593)))
                       (case aL => have := LMc47.out; omega)
                       intro v637 w65 ho hb hg hat
                       rw [← Ny636.out] at ho
                       replace HO_12 := jA (Kd.R_over' (zo HO_12) (Kd.N_typed (by (with_reducible repeat (first | apply Kd.N_alloc | apply Kd.N_drewN | apply Kd.N_drew)); exact HO_10.out)) (by decide) hg)
                       replace BK593 := jA (blk_grown (g := gb593) (o := .cells #[.bool a0_0, .bool a0_1, .bool a0_2, .bool a0_3, .bool a0_4, .int .i64 a0_5] 23 (0, 0)) (zk BK593) hg (Kd.N_ne HO_10.out BK593.out (by decide)))
                       replace HO618 := jA (Kd.R_over' (zo HO618) (Kd.N_typed (by (with_reducible repeat (first | apply Kd.N_alloc | apply Kd.N_drewN | apply Kd.N_drew)); exact HO_10.out)) (by decide) hg)
                       replace HO621 := jA (Kd.R_over' (zo HO621) (Kd.N_typed (by (with_reducible repeat (first | apply Kd.N_alloc | apply Kd.N_drewN | apply Kd.N_drew)); exact HO_10.out)) (by decide) hg)
                       replace HL622_0 := jA (Kd.V_afterv (ok := (fun k_ => (w.heap.size ≤ k_) ∧ some k_ ≠ (.slice (some ad612) t609.length co48 : Value).ownBlock ∧ some k_ ≠ (.slice Ao53 y616.length co53 : Value).ownBlock ∧ some k_ ≠ (v620 : Value).ownBlock ∧ some k_ ≠ (.slice Ao61 y627.length co61 : Value).ownBlock ∧ some k_ ≠ (.slice Ao66 y633.length co66 : Value).ownBlock ∧ k_ ≠ gb593)) (by (with_reducible repeat (first | apply Kd.V_alloc | apply Kd.V_drewN | apply Kd.V_drew)); exact Kd.V_mono HL622_0.out (fun _ hk => ⟨⟨hk.1.1.1, ⟨hk.1.1.2.2.1, ⟨hk.1.1.2.2.2.1, ⟨hk.1.1.2.2.2.2.1, ⟨hk.1.1.2.2.2.2.2.1, ⟨hk.2, hk.1.1.2.2.2.2.2.2⟩⟩⟩⟩⟩⟩, hk.1.1.2.1⟩)) hg hat)
                       replace HO629 := jA (Kd.R_over' (zo HO629) (Kd.N_typed (by (with_reducible repeat (first | apply Kd.N_alloc | apply Kd.N_drewN | apply Kd.N_drew)); exact HO_10.out)) (by decide) hg)
                       replace HO635 := jA (Kd.N_afterv (ok := (fun k_ => (w.heap.size ≤ k_) ∧ some k_ ≠ (.slice (some ad612) t609.length co48 : Value).ownBlock ∧ some k_ ≠ (.slice Ao53 y616.length co53 : Value).ownBlock ∧ some k_ ≠ (v620 : Value).ownBlock ∧ some k_ ≠ (.slice Ao61 y627.length co61 : Value).ownBlock ∧ k_ ≠ gb593)) (by (with_reducible repeat (first | apply Kd.N_alloc | apply Kd.N_drewN | apply Kd.N_drew)); exact Kd.N_mono HO635.out (fun _ hk => ⟨⟨hk.1, ⟨hk.2.2.1, ⟨hk.2.2.2.1, ⟨hk.2.2.2.2.1, ⟨hk.2.2.2.2.2.1, hk.2.2.2.2.2.2⟩⟩⟩⟩⟩, hk.2.1⟩)) hg hat)
                       replace HB := jA (hb)
                       have HO638 := jA (ho)
                       clear HO_10
                       clear ho hb hg hat
                       refine hK.out _ _ ?_
                       clear hK K
                       refine norm_ (a' := ?_) ?_ ?_
                       rotate_left
                       ·show Act.put _ (some 94) _ = _
                        simp only [Act.put, jC, jE, jF, i64_w, i32_w]
                        rfl
                       refine zp HT_ 14 10 #[true, true, true, true, true, true, true, true, true, true, true, true, true, true, true] ?_
                       refine done_ (done_of HT_.out zr) ?_
                       try go_wp2
                       go_roundg k4
                       case measure => have := HJ4.out; have := HJ11.out; have := HK3.out; have := HK4.out; omega
                       case rel => exact ⟨(y619), (y636), (wrap64 (x13_4 + 1)), zz, H', ⟨by have := HJ4.out; have := HJ11.out; have := HK3.out; have := HK4.out; omega⟩, ⟨by (with_reducible repeat (first | apply jV | apply jU | apply jS)); exact Kd.R_mono HO621.out (fun _ hk => ⟨hk.1.1, hk.1.2.1⟩)⟩, ⟨by (with_reducible repeat (first | apply Kd.N_alloc | apply Kd.N_drewN | apply Kd.N_drew)); exact Kd.N_mono HO638.out (fun _ hk => ⟨hk.1, ⟨hk.2.2.2.1, ⟨hk.2.1, hk.2.2.2.2.2⟩⟩⟩)⟩, ⟨by (with_reducible repeat (first | apply jV | apply jU | apply jS)); exact Kd.R_mono HO_12.out (fun _ hk => ⟨hk.1.1, hk.1.2.2.1⟩)⟩, ⟨zk BK593⟩, ⟨zb1 HB GE593⟩⟩
                      ·rw [if_neg c47] at H
                       exact absurd H (by simp)
                     ·rw [if_neg c46] at H
                      exact absurd H (by simp)
                    ·rw [if_neg c45] at H
                     exact absurd H (by simp)
                   ·rw [if_neg c43] at H
                    exact absurd H (by simp)
                  ·rw [if_neg c42] at H
                   exact absurd H (by simp)
                 ·rw [if_neg c41] at H
                  exact absurd H (by simp)
               ·rw [if_neg c36] at H
                have c36b0 : decide (0 ≤ (rd t609 x13_4)) = false := jW c36
                clear c36
                have H' := jA H
                clear H
                obtain ⟨Ao67, co67, eo67⟩ := Kd.R_slice HO_12.out
                subst eo67
                have p612 : 0 ≤ (x13_4 : Int) := jB za
                have q612 : x13_4 < (t609.length : Int) := jB za
                obtain ⟨ad612, e612, hx612_0⟩ := jR (jO HO_12.out).2.2 x13_4 p612 q612
                cases e612
                replace p612 := eq_true p612
                replace q612 := eq_true q612
                go_wp2
                go_roundg k4
                case measure => have := HJ4.out; have := HJ11.out; have := HK3.out; have := HK4.out; omega
                case rel => exact ⟨(x9_4), (x10_4), (wrap64 (x13_4 + 1)), zz, H', ⟨by have := HJ4.out; have := HJ11.out; have := HK3.out; have := HK4.out; omega⟩, ⟨zo HO_9⟩, ⟨by (with_reducible repeat (first | apply Kd.N_alloc | apply Kd.N_drewN | apply Kd.N_drew)); exact HO_10.out⟩, ⟨zo HO_12⟩, ⟨zk BK593⟩, ⟨zb1 HB GE593⟩⟩
              ·rw [if_neg c35] at H
               exact absurd H (by simp)
             ·rw [if_neg c34] at H
              have c34b0 : decide (x13_4 < (t609.length : Int)) = false := jW c34
              clear c34
              have H' := jA H
              clear H
              obtain ⟨Ao68, co68, eo68⟩ := Kd.R_slice HO_12.out
              subst eo68
              go_wp2
              go_roundg k4
              case measure => have := HJ4.out; have := HJ11.out; have := HK3.out; have := HK4.out; omega
              case rel => exact ⟨(x9_4), (x10_4), (wrap64 (x11_3 + 1)), zz, H', ⟨by have := HJ4.out; have := HJ11.out; have := HK3.out; have := HK4.out; omega⟩, ⟨by (with_reducible repeat (first | apply jV | apply jU | apply jS)); exact Kd.R_mono HO_9.out (fun _ hk => hk.1)⟩, ⟨by (with_reducible repeat (first | apply Kd.N_alloc | apply Kd.N_drewN | apply Kd.N_drew)); exact Kd.N_mono HO_10.out (fun _ hk => ⟨hk.1, ⟨hk.2.1, hk.2.2.2⟩⟩)⟩, ⟨zk BK593⟩, ⟨zb1 HB GE593⟩⟩
         ·rw [if_neg c26] at H
          exact absurd H (by simp)
        ·rw [if_neg c25] at H
         have c25b0 : decide (x11_3 < (x9_3.length : Int)) = false := jW c25
         clear c25
         simp only [jI, jM] at H
         obtain ⟨rfl, rfl⟩ := H
         obtain ⟨Ao69, co69, eo69⟩ := Kd.R_slice HO_9.out
         subst eo69
         go_wp2
         go_ret2
         exact ⟨_, ze, (Kd.R_V (base := 0) (Kd.R_nil _ _ _ _ _)), zb1 HB GE593⟩
     ·rw [if_neg c14] at H
      have c14b0 : (x8_11 == 0) = false := beq_eq_false_iff_ne.mpr c14
      have c14b1 : (x8_11 != 0) = true := bne_iff_ne.mpr c14
      simp only [jI, jM] at H
      obtain ⟨rfl, rfl⟩ := H
      go_wp2
      go_ret2
      exact ⟨_, ze, (Kd.R_V (base := 0) (Kd.R_nil _ _ _ _ _)), zb1 HB GE593⟩

end Go.Proofs.Ythieppjmjgijfaa.PFnReached
